import PyProof.Rows.All
import Wide.All
import OpenK.AllK
import Wide.FinOn
import KE.SortData
import KE.Datum
import HandS.Base
import HandS.Call
import HandS.List
import HandS.Lambda
import HandS.Wide
import HandS.Flow
import HandS.TupMul
import HandS.TupAny
import HandS.TupLe
import HandS.Deep
import KE.DataFind
import HandS.Conv
import HandS.IsInst
import HandS.Exc
import HandS.ExcOwn
import HandS.CallSlots
import HandS.ExcCtx
import HandS.Iter
import HandS.Walk
import HandS.Zip
import KE.GoesMore
import HandS.Comp
import HandS.ExcInit
import HandS.Defaults
import HandS.WordsExc
import HandS.HotCalls
import PyProof.Rows.TupIter
import HandS.ExcIs
import HandS.ExcField
import HandS.HeadWalk
import HandS.HeadHook1
import HandS.HeadHook2
import HandS.HeadHook3
import HandS.HeadHook4
import KE.KStateDown
import HandS.Head0
import HandS.Head1
import HandS.Head2
import HandS.HeadEnd
import PySem.Challenge.RW_neverunder_k05_broken_limits_and_moves
set_option Elab.async false
section
set_option linter.all false
set_option maxRecDepth 100000
namespace Pv
open PySem PySem.W

/-! Pv1: a small language over plain data; its meaning. Values are PyData; `.dict [(.int l, .none)]` stands for the box l. -/
abbrev D := PyData
abbrev Bx := List (List D)
def bref (l : Nat) : D := .dict [(.int (l : Int), .none)]
def isRef : D → Option Nat
  | .dict [(.int (.ofNat l), .none)] => some l
  | _ => none

/-- targets: a name; a tuple of targets (tp of a chain) -/
inductive Tg where
  | n (i : Nat) | tp (l : Tg) | nil | cons (a r : Tg)

inductive Sl where
  | un | vl (d : D) | ow (xs : List D)

inductive Ty where
  | int | bool | str | tuple | list
inductive Bi where
  | len | int | max2 | min2 | list | listR | tuple | tupleR | sorted | sum | all | any | isI (t : Ty)

inductive E where
  | v (i : Nat)
  | k (d : D)
  | g (x : Str) (d : D)
  | neg (a : E)
  | not (a : E)
  | bin (o : Operator) (a b : E)
  | cmp (o : CmpOp) (a b : E)
  | cmp2 (o p : CmpOp) (a b c : E)
  | and (a b : E)
  | or (a b : E)
  | ite (c a b : E)
  | tup (es : E)
  | lst (es : E)
  | box (es : E)
  | nil
  | cons (a r : E)
  | idx (a i : E)
  | slc (a lo hi : E)
  | call (f : Nat) (es : E)
  | bi (b : Bi) (es : E)
  | rng (es : E)
  | enum (a : E)
  | zip (a b : E)
  | lc (t : Tg) (own : List Nat) (elt it c : E)
  | heard (f : Nat) (hs : List (Str × Nat)) (e : E)

inductive S where
  | nop
  | seq (a b : S)
  | set (o : Bool) (i : Nat) (e : E)
  | unp (t : Tg) (e : E)
  | par (o p : Bool) (i j : Nat) (a b : E)
  | sub (o ix e : E)
  | put (i : Nat) (ix e : E)
  | ex (e : E)
  | app (i : Nat) (e : E)
  | ext (i : Nat) (e : E)
  | popT (t : Tg) (i : Nat)
  | appPop (i j : Nat) (e : E)
  | ret (e : E)
  | retN
  | iff (c : E) (a b : S)
  | for (t : Tg) (it : E) (b : S)
  | while (c : E) (b : S)
  | brk
  | cont
  | raise (c : Nat) (e : E)
  | frz (i : Nat)

inductive Out (α : Type) where
  | ok (a : α) (B : Bx) | ex (c : Nat) (w : D) (B : Bx) | bad
@[simp] def Out.bind {α β : Type} : Out α → (α → Bx → Out β) → Out β
  | .ok a B, f => f a B
  | .ex c w B, _ => .ex c w B
  | .bad, _ => .bad
/-- a value; is it a list that nothing else names? -/
abbrev R := D × Bool
@[simp] def Out.opt {α : Type} : Option α → Bx → Out α
  | some a, B => .ok a B
  | none, _ => .bad
abbrev Cl := Nat → List D → Bx → Out R

/-! ### operations on data -/
@[simp] def truth : D → Option Bool
  | .none => some false
  | .bool b => some b
  | .int i => some (i != 0)
  | .str x => if x.length ≤ 16777216 then some (x.length != 0) else none
  | .list xs => some (!xs.isEmpty)
  | .tuple xs => some (!xs.isEmpty)
  | .dict _ => none
/-! no list, no box within -/
mutual
def noL : D → Bool
  | .none | .bool _ | .int _ | .str _ => true
  | .list _ => false
  | .tuple xs => noLs xs
  | .dict _ => false
def noLs : List D → Bool
  | [] => true
  | x :: xs => noL x && noLs xs
end
/-- dict-free -/
abbrev plain (d : D) : Bool := d.plain

def mulOk (a b : Int) : Bool := (decide (-(2 ^ 64) < a) && decide (a < 2 ^ 64)) || (decide (-(2 ^ 64) < b) && decide (b < 2 ^ 64)) || (decide (a.natAbs < 2 ^ 4096) && decide (b.natAbs < 2 ^ 4096))
def binD : Operator → D → D → Option R
  | .Add, .int a, .int b => some (.int (a + b), false)
  | .Add, .str a, .str b => if a.length + b.length ≤ 16777216 then some (.str (a ++ b), false) else none
  | .Add, .tuple a, .tuple b => if a.length + b.length ≤ 16777216 then some (.tuple (a ++ b), false) else none
  | .Add, .list a, .list b => if a.length + b.length ≤ 16777216 then some (.list (a ++ b), true) else none
  | .Sub, .int a, .int b => some (.int (a - b), false)
  | .Mult, .int a, .int b => if mulOk a b then some (.int (a * b), false) else none
  | .Mult, .list a, .int b => if -1000 ≤ b ∧ b ≤ 1000 ∧ a.length ≤ 1000 then some (.list ((List.replicate b.toNat a).flatten), true) else none
  | .Mult, .tuple a, .int b => if -1000 ≤ b ∧ b ≤ 1000 ∧ a.length ≤ 1000 then some (.tuple ((List.replicate b.toNat a).flatten), false) else none
  | .FloorDiv, .int a, .int b => if b ≠ 0 ∧ b.natAbs < 1073741824 then some (.int (a.fdiv b), false) else none
  | .Mod, .int a, .int b => if b ≠ 0 then some (.int (a.fmod b), false) else none
  | .Pow, .int a, .int b => if 0 ≤ b ∧ b ≤ 1000000 ∧ a.natAbs < 2 ^ 64 then some (.int (a ^ b.toNat), false) else none
  | _, _, _ => none

/-- tuples of ints -/
def intsOf : List D → Option (List Int)
  | [] => some []
  | .int i :: r => (intsOf r).map (i :: ·)
  | _ :: _ => none
/-- lexicographic: a < b -/
def lexLt : List Int → List Int → Bool
  | [], [] => false
  | [], _ :: _ => true
  | _ :: _, [] => false
  | a :: as, b :: bs => if a = b then lexLt as bs else decide (a < b)
def anyEqv (xs : List D) (d : D) : Bool := xs.any fun y => PyData.eqv y d
def itemsOf : D → Option (List D)
  | .list xs => some xs
  | .tuple xs => some xs
  | _ => none
def inD (x c : D) : Option Bool :=
  match itemsOf c with
  | some xs => if x.plain && PyData.plainAll xs && decide (x.depth ≤ 64) then some (anyEqv xs x) else none
  | none => none
def tupsLt (a b : List D) : Option Bool := match intsOf a, intsOf b with
  | some xs, some ys => some (lexLt xs ys)
  | _, _ => none
def ltD : D → D → Option Bool
  | .int a, .int b => some (decide (a < b))
  | .tuple a, .tuple b => tupsLt a b
  | _, _ => none
def leD : D → D → Option Bool
  | .int a, .int b => some (decide (a ≤ b))
  | .tuple a, .tuple b => (tupsLt b a).map (!·)
  | _, _ => none
def eqD : D → D → Option Bool := fun a b => if a.plain && b.plain && decide (min a.depth b.depth ≤ 64) then some (PyData.eqv a b) else none
def gtD : D → D → Option Bool
  | .int a, .int b => some (decide (b < a))
  | _, _ => none
def geD : D → D → Option Bool
  | .int a, .int b => some (decide (b ≤ a))
  | _, _ => none
def isNone : D → Bool
  | .none => true
  | _ => false
def isD (a : D) : D → Option Bool
  | .none => some (isNone a)
  | _ => none
def cmpD (o : CmpOp) (a b : D) : Option Bool := match o with
  | .Eq => eqD a b
  | .NotEq => (eqD a b).map (!·)
  | .Lt => ltD a b
  | .LtE => leD a b
  | .Gt => gtD a b
  | .GtE => geD a b
  | .In => inD a b
  | .NotIn => (inD a b).map (!·)
  | .Is => isD a b
  | .IsNot => (isD a b).map (!·)

def negD : D → Option D
  | .int i => some (.int (-i))
  | _ => none
/-- an index, from the end below 0 -/
def ixN' (n : Nat) (i : Int) : Option Nat := if 0 ≤ i then (if i < n then some i.toNat else none) else if -(n : Int) ≤ i then some (i + n).toNat else none
def atIx {α : Type} (xs : List α) (i : Int) : Option α := (ixN' xs.length i).bind fun j => xs[j]?
def idxD (B : Bx) : D → D → Option D
  | .list xs, .int i => atIx xs i
  | .tuple xs, .int i => atIx xs i
  | .dict kvs, .int i => match isRef (.dict kvs) with
    | some l => match B[l]? with
      | some xs => atIx xs i
      | none => none
    | none => none
  | _, _ => none
/-- a bound of a slice -/
def sIx' (n d : Nat) : Option Int → Nat
  | none => d
  | some v => if v < 0 then (v + (n : Int)).toNat else min v.toNat n
def cut {α : Type} (xs : List α) (lo hi : Option Int) : List α := (xs.drop (sIx' xs.length 0 lo)).take (sIx' xs.length xs.length hi - sIx' xs.length 0 lo)
def slcP (d : D) (a b : Option Int) : Option R := match d with
  | .list xs => some (.list (cut xs a b), true)
  | .tuple xs => some (.tuple (cut xs a b), false)
  | _ => none
def isTy : Ty → D → Option Bool
  | _, .dict _ => none
  | .int, .int _ => some true
  | .int, .bool _ => some true
  | .bool, .bool _ => some true
  | .str, .str _ => some true
  | .tuple, .tuple _ => some true
  | .list, .list _ => some true
  | _, _ => some false
def allAlike (xs : List D) : Bool := xs.all fun a => xs.all fun b => alike a b
def sortable (xs : List D) : Bool := (xs.all fun a => match a with | .tuple (_ :: _) => true | _ => false) || (xs.all fun a => match a with | .none => false | .tuple _ => false | _ => true)
def boolsOf : List D → Option (List Bool)
  | [] => some []
  | .bool b :: r => (boolsOf r).map (b :: ·)
  | _ :: _ => none
def lenD (B : Bx) : List D → Option R
  | [.list xs] => some (.int xs.length, false)
  | [.tuple xs] => some (.int xs.length, false)
  | [.str x] => if x.length ≤ 16777216 then some (.int x.length, false) else none
  | [.dict kvs] => match isRef (.dict kvs) with
    | some l => (B[l]?).map fun xs => (.int xs.length, false)
    | none => none
  | _ => none
def intD : List D → Option R
  | [.int i] => some (.int i, false)
  | [.bool b] => some (.int (if b then 1 else 0), false)
  | _ => none
def maxD : List D → Option R
  | [.int a, .int b] => some (.int (if b > a then b else a), false)
  | _ => none
def minD : List D → Option R
  | [.int a, .int b] => some (.int (if b < a then b else a), false)
  | _ => none
def listD : List D → Option R
  | [.list xs] => some (.list xs, true)
  | [.tuple xs] => some (.list xs, true)
  | _ => none
def listRD : List D → Option R
  | [.list xs] => some (.list xs, true)
  | _ => none
def tupleD : List D → Option R
  | [.list xs] => some (.tuple xs, false)
  | [.tuple xs] => some (.tuple xs, false)
  | _ => none
def tupleRD : List D → Option R
  | [.list xs] => some (.tuple xs, false)
  | _ => none
def sortedD : List D → Option R
  | [.list xs] => if allAlike xs && sortable xs && decide (PyData.depthAll xs ≤ 64) && PyData.plainAll xs then some (.list (xs.mergeSort (dataLe false id)), true) else none
  | _ => none
def sumD : List D → Option R
  | [.list xs] => (intsOf xs).map fun ns => (.int ns.sum, false)
  | _ => none
def allD : List D → Option R
  | [.list xs] => (boolsOf xs).map fun bs => (.bool (bs.all id), false)
  | _ => none
def anyD : List D → Option R
  | [.list xs] => (boolsOf xs).map fun bs => (.bool (bs.any id), false)
  | _ => none
def isID (t : Ty) : List D → Option R
  | [d] => (isTy t d).map fun b => (.bool b, false)
  | _ => none
def biD (B : Bx) (b : Bi) (ds : List D) : Option R := match b with
  | .len => lenD B ds
  | .int => intD ds
  | .max2 => maxD ds
  | .min2 => minD ds
  | .list => listD ds
  | .listR => listRD ds
  | .tuple => tupleD ds
  | .tupleR => tupleRD ds
  | .sorted => sortedD ds
  | .sum => sumD ds
  | .all => allD ds
  | .any => anyD ds
  | .isI t => isID t ds
def rngL (a b : Int) : List D := (List.range (b - a).toNat).map fun (i : Nat) => .int (a + (i : Int))
def rng2 (a b : Int) : Option (List D) := if -(2 ^ 62) ≤ a ∧ a < 2 ^ 62 ∧ -(2 ^ 62) ≤ b ∧ b < 2 ^ 62 ∧ b - a ≤ 16777216 then some (rngL a b) else none
def rngD : List D → Option (List D)
  | [.int b] => rng2 0 b
  | [.int a, .int b] => rng2 a b
  | _ => none
def enumL (n : Nat) : List D → List D
  | [] => []
  | x :: xs => .tuple [.int (n : Int), x] :: enumL (n + 1) xs
def zipL : List D → List D → List D
  | x :: xs, y :: ys => .tuple [x, y] :: zipL xs ys
  | _, _ => []
/-- a target is bound -/
def bindT : Tg → D → List Sl → Option (List Sl)
  | .n i, d, ρ => some (ρ.set i (.vl d))
  | .tp l, .tuple ds, ρ => bindT l (.list ds) ρ
  | .nil, .list [], ρ => some ρ
  | .cons a r, .list (d :: ds), ρ => (bindT a d ρ).bind fun ρ => bindT r (.list ds) ρ
  | _, _, _ => none
def wipeS (ρ : List Sl) : List Nat → List Sl
  | [] => ρ
  | i :: r => (wipeS ρ r).set i .un
def lcL (f : D → Bx → Out (Option D)) : List D → Bx → Out (List D)
  | [], B => .ok [] B
  | x :: xs, B => (f x B).bind fun o B => (lcL f xs B).bind fun r B => .ok (match o with | some y => y :: r | none => r) B
def lentOut : Out R → Out R
  | .ok r B => if noL r.1 && B.all noLs then .ok (r.1, false) B else .bad
  | .ex c w B => if noL w && B.all noLs then .ex c w B else .bad
  | .bad => .bad
def noEx {α : Type} : Out α → Out α
  | .ok a B => .ok a B
  | _ => .bad
def heardOf (hs : List (Str × Nat)) (c : Nat) : Str := Txt.join " " ((hs.filter fun h => h.2 == c).map (·.1))
/-- is an argument a list that only one name holds? -/
def lent (ρ : List Sl) : E → Bool
  | .cons (.v i) r => (match ρ[i]? with | some (.ow _) => true | _ => false) || lent ρ r
  | .cons _ r => lent ρ r
  | _ => false
/-- a bound of a slice: left out, or an int -/
def partE : E → D → Option (Option Int)
  | .k .none, _ => some none
  | _, .int i => some (some i)
  | _, _ => none
/-- expressions: m: lists that only one name holds may not be handed out -/
def ev (C : Cl) : E → Bool → List Sl → Bx → Out R
  | .v i, m, ρ, B => match ρ[i]? with
    | some (.vl d) => .ok (d, false) B
    | some (.ow xs) => if m then .bad else .ok (.list xs, false) B
    | _ => .bad
  | .k d, _, _, B => .ok (d, false) B
  | .g _ d, _, _, B => .ok (d, false) B
  | .neg a, _, ρ, B => (ev C a false ρ B).bind fun x B => Out.opt ((negD x.1).map fun d => (d, false)) B
  | .not a, _, ρ, B => (ev C a false ρ B).bind fun x B => Out.opt ((truth x.1).map fun b => (.bool !b, false)) B
  | .bin o a b, _, ρ, B => (ev C a false ρ B).bind fun x B => (ev C b false ρ B).bind fun y B => Out.opt (binD o x.1 y.1) B
  | .cmp o a b, _, ρ, B => (ev C a false ρ B).bind fun x B => (ev C b false ρ B).bind fun y B => Out.opt ((cmpD o x.1 y.1).map fun b => (.bool b, false)) B
  | .cmp2 o p a b c, _, ρ, B => (ev C a false ρ B).bind fun x B => (ev C b false ρ B).bind fun y B => match cmpD o x.1 y.1 with
    | some true => (ev C c false ρ B).bind fun z B => Out.opt ((cmpD p y.1 z.1).map fun b => (.bool b, false)) B
    | some false => .ok (.bool false, false) B
    | none => .bad
  | .and a b, m, ρ, B => (ev C a m ρ B).bind fun x B => match truth x.1 with
    | some true => ev C b m ρ B
    | some false => .ok (x.1, false) B
    | none => .bad
  | .or a b, m, ρ, B => (ev C a m ρ B).bind fun x B => match truth x.1 with
    | some false => ev C b m ρ B
    | some true => .ok (x.1, false) B
    | none => .bad
  | .ite c a b, m, ρ, B => (ev C c false ρ B).bind fun x B => match truth x.1 with
    | some true => ev C a m ρ B
    | some false => ev C b m ρ B
    | none => .bad
  | .tup es, _, ρ, B => (ev C es true ρ B).bind fun x B => match x.1 with
    | .list xs => if xs.length ≤ 16777216 then .ok (.tuple xs, false) B else .bad
    | _ => .bad
  | .lst es, _, ρ, B => (ev C es true ρ B).bind fun x B => match x.1 with
    | .list xs => if xs.length ≤ 16777216 then .ok (.list xs, true) B else .bad
    | _ => .bad
  | .box es, _, ρ, B => (ev C es true ρ B).bind fun x B => match x.1 with
    | .list xs => if xs.length ≤ 16777216 then .ok (bref B.length, false) (B ++ [xs]) else .bad
    | _ => .bad
  | .nil, _, _, B => .ok (.list [], false) B
  | .cons a r, m, ρ, B => (ev C a m ρ B).bind fun x B => (ev C r m ρ B).bind fun y B => match y.1 with
    | .list ys => .ok (.list (x.1 :: ys), false) B
    | _ => .bad
  | .idx a i, _, ρ, B => (ev C a false ρ B).bind fun x B => (ev C i false ρ B).bind fun y B => Out.opt ((idxD B x.1 y.1).map fun d => (d, false)) B
  | .slc a lo hi, _, ρ, B => (ev C a false ρ B).bind fun x B => (ev C lo false ρ B).bind fun l B => match partE lo l.1 with
    | some p => (ev C hi false ρ B).bind fun h B => match partE hi h.1 with
      | some q => Out.opt (slcP x.1 p q) B
      | none => .bad
    | none => .bad
  | .call f es, _, ρ, B => (ev C es (!lent ρ es) ρ B).bind fun x B => match x.1 with
    | .list xs => if lent ρ es then lentOut (C f xs B) else C f xs B
    | _ => .bad
  | .bi b es, _, ρ, B => (ev C es false ρ B).bind fun x B => match x.1 with
    | .list xs => Out.opt (biD B b xs) B
    | _ => .bad
  | .rng es, _, ρ, B => (ev C es false ρ B).bind fun x B => match x.1 with
    | .list xs => Out.opt ((rngD xs).map fun l => (.list l, false)) B
    | _ => .bad
  | .enum a, m, ρ, B => (ev C a m ρ B).bind fun x B => Out.opt ((itemsOf x.1).map fun l => (.list (enumL 0 l), false)) B
  | .zip a b, _, ρ, B => (ev C a true ρ B).bind fun x B => (ev C b true ρ B).bind fun y B => match x.1 with
    | .list xs => match y.1 with
      | .list ys => .ok (.list (zipL xs ys), false) B
      | _ => .bad
    | _ => .bad
  | .lc t own elt it c, _, ρ, B => (ev C it false ρ B).bind fun x B => match itemsOf x.1 with
    | some xs => (noEx <| lcL (fun d B => match bindT t d (wipeS ρ own) with
      | some ρ' => (ev C c false ρ' B).bind fun b B => match truth b.1 with
        | some true => (ev C elt true ρ' B).bind fun y B => .ok (some y.1) B
        | some false => .ok none B
        | none => .bad
      | none => .bad) xs B).bind fun r B => .ok (.list r, true) B
    | none => .bad
  | .heard _ hs e, _, ρ, B => match ev C e true ρ B with
    | .ok r B => .ok (.tuple [.str "told", r.1], false) B
    | .ex c w B => .ok (.tuple [.str (heardOf hs c), w], false) B
    | .bad => .bad

/-! ### statements -/
inductive Fl where
  | nx (ρ : List Sl) | rt (d : D) (fr : Bool) | bk (ρ : List Sl) | ct (ρ : List Sl)
def slotOf (o : Bool) (r : R) (B : Bx) : Sl := match o, r with
  | true, (.list xs, true) => if B.all noLs then .ow xs else .vl (.list xs)
  | _, (d, _) => .vl d
def forL (f : D → List Sl → Bx → Out Fl) : List D → List Sl → Bx → Out Fl
  | [], ρ, B => .ok (.nx ρ) B
  | x :: xs, ρ, B => (f x ρ B).bind fun o B => match o with
    | .nx ρ => forL f xs ρ B
    | .ct ρ => forL f xs ρ B
    | .bk ρ => .ok (.nx ρ) B
    | .rt d fr => .ok (.rt d fr) B
def whileL (c : List Sl → Bx → Out R) (f : List Sl → Bx → Out Fl) : Nat → List Sl → Bx → Out Fl
  | 0, _, _ => .bad
  | n + 1, ρ, B => (c ρ B).bind fun b B => match truth b.1 with
    | some false => .ok (.nx ρ) B
    | some true => (f ρ B).bind fun o B => match o with
      | .nx ρ => whileL c f n ρ B
      | .ct ρ => whileL c f n ρ B
      | .bk ρ => .ok (.nx ρ) B
      | .rt d fr => .ok (.rt d fr) B
    | none => .bad
def fuelW : Nat := 16777216
def ex (C : Cl) : S → List Sl → Bx → Out Fl
  | .nop, ρ, B => .ok (.nx ρ) B
  | .seq a b, ρ, B => (ex C a ρ B).bind fun f B => match f with
    | .nx ρ => ex C b ρ B
    | f => .ok f B
  | .set o i e, ρ, B => (ev C e true ρ B).bind fun r B => .ok (.nx (ρ.set i (slotOf o r B))) B
  | .unp t e, ρ, B => (ev C e true ρ B).bind fun r B => Out.opt ((bindT t r.1 ρ).map .nx) B
  | .par o p i j a b, ρ, B => (ev C a true ρ B).bind fun x B1 => (ev C b true ρ B1).bind fun y B2 => .ok (.nx ((ρ.set i (slotOf o x B1)).set j (slotOf p y B2))) B2
  | .sub o ix e, ρ, B => (ev C e true ρ B).bind fun z B => (ev C o true ρ B).bind fun x B => (ev C ix true ρ B).bind fun y B => match isRef x.1, y.1 with
    | some l, .int i => match B[l]? with
      | some xs => if 0 ≤ i ∧ i.toNat < xs.length then .ok (.nx ρ) (B.set l (xs.set i.toNat z.1)) else .bad
      | none => .bad
    | _, _ => .bad
  | .put i ix e, ρ, B => (ev C e true ρ B).bind fun z B => match ρ[i]? with
    | some (.ow xs) => (ev C ix true ρ B).bind fun y B => match y.1 with
      | .int n => if 0 ≤ n ∧ n.toNat < xs.length then .ok (.nx (ρ.set i (.ow (xs.set n.toNat z.1)))) B else .bad
      | _ => .bad
    | _ => .bad
  | .ex e, ρ, B => (ev C e false ρ B).bind fun _ B => .ok (.nx ρ) B
  | .app i e, ρ, B => match ρ[i]? with
    | some (.ow xs) => (ev C e true ρ B).bind fun r B => if xs.length < 16777216 then .ok (.nx (ρ.set i (.ow (xs ++ [r.1])))) B else .bad
    | _ => .bad
  | .ext i e, ρ, B => match ρ[i]? with
    | some (.ow xs) => (ev C e true ρ B).bind fun r B => match r with
      | (.list ys, true) => if xs.length + ys.length ≤ 16777216 then .ok (.nx (ρ.set i (.ow (xs ++ ys)))) B else .bad
      | _ => .bad
    | _ => .bad
  | .popT t i, ρ, B => match ρ[i]? with
    | some (.ow xs) => match xs.getLast? with
      | some d => Out.opt ((bindT t d (ρ.set i (.ow xs.dropLast))).map .nx) B
      | none => .bad
    | _ => .bad
  | .appPop i j e, ρ, B => match ρ[i]?, ρ[j]? with
    | some (.ow xs), some (.ow ys) => if i = j then .bad else (ev C e true ρ B).bind fun r B => match r.1 with
      | .int n => if xs.length < 16777216 ∧ 0 ≤ n ∧ n < 2 ^ 62 then match ys[n.toNat]? with
        | some d => .ok (.nx ((ρ.set j (.ow (ys.eraseIdx n.toNat))).set i (.ow (xs ++ [d])))) B
        | none => .bad
        else .bad
      | _ => .bad
    | _, _ => .bad
  | .ret (.v i), ρ, B => match ρ[i]? with
    | some (.vl d) => .ok (.rt d false) B
    | some (.ow xs) => .ok (.rt (.list xs) true) B
    | _ => .bad
  | .ret e, ρ, B => (ev C e true ρ B).bind fun r B => .ok (.rt r.1 r.2) B
  | .retN, _, B => .ok (.rt .none false) B
  | .iff c a b, ρ, B => (ev C c false ρ B).bind fun x B => match truth x.1 with
    | some true => ex C a ρ B
    | some false => ex C b ρ B
    | none => .bad
  | .for t it b, ρ, B => (ev C it true ρ B).bind fun x B => match itemsOf x.1 with
    | some xs => forL (fun d ρ B => match bindT t d ρ with
      | some ρ => ex C b ρ B
      | none => .bad) xs ρ B
    | none => .bad
  | .while c b, ρ, B => whileL (fun ρ B => ev C c false ρ B) (fun ρ B => ex C b ρ B) fuelW ρ B
  | .brk, ρ, B => .ok (.bk ρ) B
  | .cont, ρ, B => .ok (.ct ρ) B
  | .raise c e, ρ, B => (ev C e true ρ B).bind fun r B => .ex c r.1 B
  | .frz i, ρ, B => match ρ[i]? with
    | some (.ow xs) => .ok (.nx (ρ.set i (.vl (.list xs)))) B
    | _ => .ok (.nx ρ) B

structure FnD where
  np : Nat
  ns : Nat
  body : S
def slots0 (fd : FnD) (args : List D) : List Sl := args.map .vl ++ List.replicate (fd.ns - fd.np) .un
def outR : Out Fl → Out R
  | .ok (.rt d fr) B => .ok (d, fr) B
  | .ok (.nx _) B => .ok (.none, false) B
  | .ok _ _ => .bad
  | .ex c w B => .ex c w B
  | .bad => .bad
def callF (G : List FnD) : Nat → Cl
  | 0, _, _, _ => .bad
  | n + 1, f, args, B => match G[f]? with
    | some fd => if args.length = fd.np then outR (ex (callF G n) fd.body (slots0 fd args) B) else .bad
    | none => .bad
end Pv
end
section
set_option linter.all false
set_option maxRecDepth 100000
namespace Pv
open PySem PySem.Spec PyProof.Rows L2

/-! Pv2: what values of the heap stand for data -/
/-- a tuple | a list of the written part -/
def KT (K : PySem.W.Frag) (a : Addr) (xs : List V) : Prop := ∃ (o : Obj) (its : Array Value) (n : Nat), K.lookup a = some o ∧ o.cls = .type "tuple" ∧ o.data = .seq its n ∧ its.size ≤ sizeLine ∧ Vals xs its.toList
abbrev Mu (L : Addr → Prop) (β : List Addr) (a : Addr) : Prop := L a ∨ a ∈ β
section
variable (K : PySem.W.Frag) (L : Addr → Prop) (β : List Addr) (H : Hp)
mutual
/-- v stands for d; no list that may change is within (L: locked ones, β: the boxes) -/
def Rp : D → V → Prop
  | .none, v => v = .non
  | .bool b, v => v = .bl b
  | .int i, v => v = .int i
  | .str x, v => v = .str x
  | .tuple ds, v => ∃ a vs, v = .ref a ∧ ((¬ Mu L β a ∧ Rd H a (.tup vs)) ∨ KT K a vs) ∧ ds.length ≤ sizeLine ∧ Rps ds vs
  | .list ds, v => ∃ a vs, v = .ref a ∧ ¬ Mu L β a ∧ Rd H a (.lst vs) ∧ ds.length ≤ sizeLine ∧ Rps ds vs
  | .dict kvs, v => ∃ l a, isRef (.dict kvs) = some l ∧ β[l]? = some a ∧ v = .ref a
def Rps : List D → List V → Prop
  | [], vs => vs = []
  | d :: ds, vs => ∃ v r, vs = v :: r ∧ Rp d v ∧ Rps ds r
end
/-- v stands for d at this moment: v itself may be a list that may change -/
def Rb (d : D) (v : V) : Prop := Rp K L β H d v ∨ ∃ xs a vs, d = .list xs ∧ v = .ref a ∧ a ∉ β ∧ H a = some (.lst vs) ∧ xs.length ≤ sizeLine ∧ Rps K L β H xs vs
def Rbs : List D → List V → Prop
  | [], vs => vs = []
  | d :: ds, vs => ∃ v r, vs = v :: r ∧ Rb K L β H d v ∧ Rbs ds r
end
theorem frz_tbl {o : Obj} {u : HO} (ps : Array Value) : HO.frz o u ≠ .tbl ps := fun z => HO.noConfusion z
theorem lst_tbl {xs : List V} (ps : Array Value) : HO.lst xs ≠ .tbl ps := fun z => HO.noConfusion z
theorem tup_tbl {xs : List V} (ps : Array Value) : HO.tup xs ≠ .tbl ps := fun z => HO.noConfusion z
/-- what an expression may do to the abstract heap: boxes change, boxes come, objects come, the tables grow -/
structure Mv (β : List Addr) (H : Hp) (β' : List Addr) (H' : Hp) : Prop where
  ext : ∃ n, β' = β ++ n ∧ ∀ a ∈ n, H a = none
  keep : ∀ b o, b ∉ β → H b = some o → (∀ ps, o ≠ .tbl ps) → H' b = some o
  live : ∀ b o, H b = some o → ∃ o', H' b = some o'
theorem Mv.refl (β : List Addr) (H : Hp) : Mv β H β H := ⟨⟨[], by simp, by simp⟩, fun _ _ _ h _ => h, fun _ o h => ⟨o, h⟩⟩
theorem Mv.none {β β' : List Addr} {H H' : Hp} (m : Mv β H β' H') {a : Addr} (h : H' a = none) : H a = none := by
  cases e : H a with
  | none => rfl
  | some o =>
    obtain ⟨o', e'⟩ := m.live a o e
    rw [h] at e'; cases e'
theorem Mv.trans {β β' β'' : List Addr} {H H' H'' : Hp} (m : Mv β H β' H') (n : Mv β' H' β'' H'') : Mv β H β'' H'' := by
  obtain ⟨x, e, hx⟩ := m.ext
  obtain ⟨y, e', hy⟩ := n.ext
  refine ⟨⟨x ++ y, by rw [e', e, List.append_assoc], fun a ha => ?_⟩, fun b o hb h1 h2 => ?_, fun b o h => ?_⟩
  · rcases List.mem_append.mp ha with h | h
    · exact hx a h
    · exact m.none (hy a h)
  · refine n.keep b o (fun hb' => ?_) (m.keep b o hb h1 h2) h2
    rw [e] at hb'
    rcases List.mem_append.mp hb' with h | h
    · exact hb h
    · rw [hx b h] at h1; cases h1
  · obtain ⟨o', e1⟩ := m.live b o h
    exact n.live b o' e1
theorem Mv.get {β β' : List Addr} {H H' : Hp} (m : Mv β H β' H') {l : Nat} {a : Addr} (h : β[l]? = some a) : β'[l]? = some a := by
  obtain ⟨x, e, _⟩ := m.ext
  rw [e]
  have : l < β.length := by
    rcases Nat.lt_or_ge l β.length with h' | h'
    · exact h'
    · rw [List.getElem?_eq_none h'] at h; cases h
  rw [List.getElem?_append_left this]
  exact h
theorem Mv.mem {β β' : List Addr} {H H' : Hp} (m : Mv β H β' H') {a : Addr} (h : a ∈ β) : a ∈ β' := by
  obtain ⟨x, e, _⟩ := m.ext
  rw [e]; exact List.mem_append_left _ h
theorem Mv.notin {β β' : List Addr} {H H' : Hp} (m : Mv β H β' H') {a : Addr} {o : HO} (h : a ∉ β) (e : H a = some o) : a ∉ β' := by
  obtain ⟨x, ex, hx⟩ := m.ext
  intro h'
  rw [ex] at h'
  rcases List.mem_append.mp h' with z | z
  · exact h z
  · rw [hx a z] at e; cases e
/-- new objects alone -/
theorem Mv.of {β : List Addr} {H H' : Hp} (h : ∀ b o, H b = some o → H' b = some o) : Mv β H β H' := ⟨⟨[], by simp, by simp⟩, fun b o _ e _ => h b o e, fun b o e => ⟨o, h b o e⟩⟩
section
variable {K : PySem.W.Frag} {L : Addr → Prop} {β β' : List Addr} {H H' : Hp}
theorem Rd.mv (m : Mv β H β' H') {a : Addr} {u : HO} (hu : ∀ ps, u ≠ .tbl ps) (n : ¬ Mu L β a) (r : Rd H a u) : ¬ Mu L β' a ∧ Rd H' a u := by
  have nb : a ∉ β := fun z => n (.inr z)
  rcases r with r | ⟨o, r⟩
  · exact ⟨fun z => z.elim (fun z => n (.inl z)) (m.notin nb r), .inl (m.keep a _ nb r hu)⟩
  · exact ⟨fun z => z.elim (fun z => n (.inl z)) (m.notin nb r), .inr ⟨o, m.keep a _ nb r frz_tbl⟩⟩
mutual
theorem Rp.mv (m : Mv β H β' H') : ∀ (d : D) (v : V), Rp K L β H d v → Rp K L β' H' d v
  | .none, v, h => by rw [Rp] at h ⊢; exact h
  | .bool b, v, h => by rw [Rp] at h ⊢; exact h
  | .int i, v, h => by rw [Rp] at h ⊢; exact h
  | .str x, v, h => by rw [Rp] at h ⊢; exact h
  | .tuple ds, v, h => by
    rw [Rp] at h ⊢
    obtain ⟨a, vs, e, q, z, r⟩ := h
    refine ⟨a, vs, e, ?_, z, Rps.mv m ds vs r⟩
    rcases q with ⟨n, q⟩ | q
    · exact .inl (Rd.mv m tup_tbl n q)
    · exact .inr q
  | .list ds, v, h => by
    rw [Rp] at h ⊢
    obtain ⟨a, vs, e, n, q, z, r⟩ := h
    obtain ⟨n', q'⟩ := Rd.mv m lst_tbl n q
    exact ⟨a, vs, e, n', q', z, Rps.mv m ds vs r⟩
  | .dict kvs, v, h => by
    rw [Rp] at h ⊢
    obtain ⟨l, a, e, q, z⟩ := h
    exact ⟨l, a, e, m.get q, z⟩
theorem Rps.mv (m : Mv β H β' H') : ∀ (ds : List D) (vs : List V), Rps K L β H ds vs → Rps K L β' H' ds vs
  | [], vs, h => by rw [Rps] at h ⊢; exact h
  | d :: ds, vs, h => by
    rw [Rps] at h ⊢
    obtain ⟨v, r, e, h1, h2⟩ := h
    exact ⟨v, r, e, Rp.mv m d v h1, Rps.mv m ds r h2⟩
end
theorem Rb.mv (m : Mv β H β' H') {d : D} {v : V} (h : Rb K L β H d v) : Rb K L β' H' d v := by
  rcases h with h | ⟨xs, a, vs, e1, e2, n, q, z, r⟩
  · exact .inl (h.mv m)
  · exact .inr ⟨xs, a, vs, e1, e2, m.notin n q, m.keep a _ n q lst_tbl, z, r.mv m⟩
theorem Rbs.mv (m : Mv β H β' H') : ∀ {ds : List D} {vs : List V}, Rbs K L β H ds vs → Rbs K L β' H' ds vs
  | [], vs, h => by rw [Rbs] at h ⊢; exact h
  | d :: ds, vs, h => by
    rw [Rbs] at h ⊢
    obtain ⟨v, r, e, h1, h2⟩ := h
    exact ⟨v, r, e, h1.mv m, Rbs.mv m h2⟩
theorem Rps.b : ∀ {ds : List D} {vs : List V}, Rps K L β H ds vs → Rbs K L β H ds vs
  | [], vs, h => by rw [Rps] at h; rw [Rbs]; exact h
  | d :: ds, vs, h => by
    rw [Rps] at h; rw [Rbs]
    obtain ⟨v, r, e, h1, h2⟩ := h
    exact ⟨v, r, e, .inl h1, Rps.b h2⟩
theorem Rps.nil : Rps K L β H [] [] := by rw [Rps]
theorem Rps.cons {d : D} {v : V} {ds : List D} {vs : List V} (h : Rp K L β H d v) (r : Rps K L β H ds vs) : Rps K L β H (d :: ds) (v :: vs) := by
  rw [Rps]; exact ⟨v, vs, rfl, h, r⟩
theorem Rps.uncons {d : D} {v : V} {ds : List D} {vs : List V} (h : Rps K L β H (d :: ds) (v :: vs)) : Rp K L β H d v ∧ Rps K L β H ds vs := by
  rw [Rps] at h
  obtain ⟨v', r, e, h1, h2⟩ := h
  cases e
  exact ⟨h1, h2⟩
theorem Rps.length : ∀ {ds : List D} {vs : List V}, Rps K L β H ds vs → vs.length = ds.length
  | [], vs, h => by rw [Rps] at h; rw [h]; rfl
  | d :: ds, vs, h => by
    rw [Rps] at h
    obtain ⟨v, r, e, _, h2⟩ := h
    rw [e, List.length_cons, List.length_cons, Rps.length h2]
theorem Rps.append : ∀ {ds es : List D} {vs ws : List V}, Rps K L β H ds vs → Rps K L β H es ws → Rps K L β H (ds ++ es) (vs ++ ws)
  | [], es, vs, ws, h, r => by rw [Rps] at h; rw [h]; exact r
  | d :: ds, es, vs, ws, h, r => by
    rw [Rps] at h
    obtain ⟨v, q, e, h1, h2⟩ := h
    rw [e, List.cons_append, List.cons_append]
    exact .cons h1 (Rps.append h2 r)
theorem Rps.get : ∀ {ds : List D} {vs : List V} {i : Nat} {d : D}, Rps K L β H ds vs → ds[i]? = some d → ∃ v, vs[i]? = some v ∧ Rp K L β H d v
  | [], _, _, _, _, e => by simp at e
  | x :: ds, vs, i, d, h, e => by
    rw [Rps] at h
    obtain ⟨v, q, ev, h1, h2⟩ := h
    subst ev
    cases i with
    | zero => simp at e; subst e; exact ⟨v, rfl, h1⟩
    | succ i =>
      obtain ⟨w, a, b⟩ := Rps.get (i := i) h2 (by simpa using e)
      exact ⟨w, by simpa using a, b⟩
theorem Rps.take : ∀ {ds : List D} {vs : List V} (n : Nat), Rps K L β H ds vs → Rps K L β H (ds.take n) (vs.take n)
  | [], vs, n, h => by rw [Rps] at h; rw [h]; simpa using Rps.nil
  | d :: ds, vs, n, h => by
    rw [Rps] at h
    obtain ⟨v, q, ev, h1, h2⟩ := h
    subst ev
    cases n with
    | zero => simpa using Rps.nil
    | succ n => simpa using Rps.cons h1 (Rps.take n h2)
theorem Rps.drop : ∀ {ds : List D} {vs : List V} (n : Nat), Rps K L β H ds vs → Rps K L β H (ds.drop n) (vs.drop n)
  | [], vs, n, h => by rw [Rps] at h; rw [h]; simpa using Rps.nil
  | d :: ds, vs, n, h => by
    rw [Rps] at h
    obtain ⟨v, q, ev, h1, h2⟩ := h
    subst ev
    cases n with
    | zero => simpa using Rps.cons h1 h2
    | succ n => simpa using Rps.drop n h2
theorem Rps.set {x : D} {w : V} (hx : Rp K L β H x w) : ∀ {ds : List D} {vs : List V} (n : Nat), Rps K L β H ds vs → Rps K L β H (ds.set n x) (vs.set n w)
  | [], vs, n, h => by rw [Rps] at h; rw [h]; simpa using Rps.nil
  | d :: ds, vs, n, h => by
    rw [Rps] at h
    obtain ⟨v, q, ev, h1, h2⟩ := h
    subst ev
    cases n with
    | zero => simpa using Rps.cons hx h2
    | succ n => simpa using Rps.cons h1 (Rps.set hx n h2)
theorem Rps.erase : ∀ {ds : List D} {vs : List V} (n : Nat), Rps K L β H ds vs → Rps K L β H (ds.eraseIdx n) (vs.eraseIdx n)
  | [], vs, n, h => by rw [Rps] at h; rw [h]; simpa using Rps.nil
  | d :: ds, vs, n, h => by
    rw [Rps] at h
    obtain ⟨v, q, ev, h1, h2⟩ := h
    subst ev
    cases n with
    | zero => simpa using h2
    | succ n => simpa using Rps.cons h1 (Rps.erase n h2)
/-- fewer locked ones are asked -/
theorem Rd.less {L' : Addr → Prop} {a : Addr} (hL : ∀ a, Mu L' β' a → Mu L β a ∨ H a = none) {u : HO} (n : ¬ Mu L β a) (r : Rd H a u) : ¬ Mu L' β' a := fun z => by
  rcases hL a z with z | z
  · exact n z
  · rcases r with r | ⟨o, r⟩ <;> rw [z] at r <;> cases r
mutual
theorem Rp.less {L' : Addr → Prop} (hL : ∀ a, Mu L' β' a → Mu L β a ∨ H a = none) (hb : ∀ (l : Nat) a, β[l]? = some a → β'[l]? = some a) : ∀ (d : D) (v : V), Rp K L β H d v → Rp K L' β' H d v
  | .none, v, h => by rw [Rp] at h ⊢; exact h
  | .bool b, v, h => by rw [Rp] at h ⊢; exact h
  | .int i, v, h => by rw [Rp] at h ⊢; exact h
  | .str x, v, h => by rw [Rp] at h ⊢; exact h
  | .tuple ds, v, h => by
    rw [Rp] at h ⊢
    obtain ⟨a, vs, e, q, z, r⟩ := h
    refine ⟨a, vs, e, ?_, z, Rps.less hL hb ds vs r⟩
    rcases q with ⟨n, q⟩ | q
    · exact .inl ⟨Rd.less hL n q, q⟩
    · exact .inr q
  | .list ds, v, h => by
    rw [Rp] at h ⊢
    obtain ⟨a, vs, e, n, q, z, r⟩ := h
    exact ⟨a, vs, e, Rd.less hL n q, q, z, Rps.less hL hb ds vs r⟩
  | .dict kvs, v, h => by
    rw [Rp] at h ⊢
    obtain ⟨l, a, e, q, z⟩ := h
    exact ⟨l, a, e, hb l a q, z⟩
theorem Rps.less {L' : Addr → Prop} (hL : ∀ a, Mu L' β' a → Mu L β a ∨ H a = none) (hb : ∀ (l : Nat) a, β[l]? = some a → β'[l]? = some a) : ∀ (ds : List D) (vs : List V), Rps K L β H ds vs → Rps K L' β' H ds vs
  | [], vs, h => by rw [Rps] at h ⊢; exact h
  | d :: ds, vs, h => by
    rw [Rps] at h ⊢
    obtain ⟨v, r, e, h1, h2⟩ := h
    exact ⟨v, r, e, Rp.less hL hb d v h1, Rps.less hL hb ds r h2⟩
end
/-! one list that may change has changed -/
mutual
theorem Rp.chg {x : Addr} (hx : Mu L β x) (h' : ∀ b o, b ≠ x → H b = some o → H' b = some o) : ∀ (d : D) (v : V), Rp K L β H d v → Rp K L β H' d v
  | .none, v, h => by rw [Rp] at h ⊢; exact h
  | .bool b, v, h => by rw [Rp] at h ⊢; exact h
  | .int i, v, h => by rw [Rp] at h ⊢; exact h
  | .str x, v, h => by rw [Rp] at h ⊢; exact h
  | .tuple ds, v, h => by
    rw [Rp] at h ⊢
    obtain ⟨a, vs, e, q, z, r⟩ := h
    refine ⟨a, vs, e, ?_, z, Rps.chg hx h' ds vs r⟩
    rcases q with ⟨n, q⟩ | q
    · have ne : a ≠ x := fun z => n (z ▸ hx)
      exact .inl ⟨n, q.elim (fun q => .inl (h' a _ ne q)) fun ⟨o, q⟩ => .inr ⟨o, h' a _ ne q⟩⟩
    · exact .inr q
  | .list ds, v, h => by
    rw [Rp] at h ⊢
    obtain ⟨a, vs, e, n, q, z, r⟩ := h
    have ne : a ≠ x := fun z => n (z ▸ hx)
    exact ⟨a, vs, e, n, q.elim (fun q => .inl (h' a _ ne q)) fun ⟨o, q⟩ => .inr ⟨o, h' a _ ne q⟩, z, Rps.chg hx h' ds vs r⟩
  | .dict kvs, v, h => by
    rw [Rp] at h ⊢
    exact h
theorem Rps.chg {x : Addr} (hx : Mu L β x) (h' : ∀ b o, b ≠ x → H b = some o → H' b = some o) : ∀ (ds : List D) (vs : List V), Rps K L β H ds vs → Rps K L β H' ds vs
  | [], vs, h => by rw [Rps] at h ⊢; exact h
  | d :: ds, vs, h => by
    rw [Rps] at h ⊢
    obtain ⟨v, r, e, h1, h2⟩ := h
    exact ⟨v, r, e, Rp.chg hx h' d v h1, Rps.chg hx h' ds r h2⟩
end
/-- later on, in a def's body: what may change has changed, new things have come; other lists may change then -/
structure Lt (L : Addr → Prop) (β : List Addr) (H : Hp) (L' : Addr → Prop) (β' : List Addr) (H' : Hp) : Prop where
  keep : ∀ b o, ¬ Mu L β b → H b = some o → (∀ ps, o ≠ .tbl ps) → H' b = some o
  mu : ∀ a, Mu L' β' a → Mu L β a ∨ H a = none
  get : ∀ (l : Nat) a, β[l]? = some a → β'[l]? = some a
  live : ∀ b o, H b = some o → ∃ o', H' b = some o'
theorem Lt.refl : Lt L β H L β H := ⟨fun _ _ _ h _ => h, fun _ h => .inl h, fun _ _ h => h, fun _ o h => ⟨o, h⟩⟩
theorem Lt.none {L' : Addr → Prop} (m : Lt L β H L' β' H') {a : Addr} (h : H' a = none) : H a = none := by
  cases e : H a with
  | none => rfl
  | some o =>
    obtain ⟨o', e'⟩ := m.live a o e
    rw [h] at e'; cases e'
theorem Lt.trans {L' L'' : Addr → Prop} {β'' : List Addr} {H'' : Hp} (m : Lt L β H L' β' H') (n : Lt L' β' H' L'' β'' H'') : Lt L β H L'' β'' H'' := by
  refine ⟨fun b o hb h1 h2 => n.keep b o (fun z => ?_) (m.keep b o hb h1 h2) h2, fun a z => ?_, fun l a h => n.get l a (m.get l a h), fun b o h => ?_⟩
  · rcases m.mu b z with q | q
    · exact hb q
    · rw [h1] at q; cases q
  · rcases n.mu a z with q | q
    · exact m.mu a q
    · exact .inr (m.none q)
  · obtain ⟨o', e⟩ := m.live b o h
    exact n.live b o' e
theorem Mv.lt (m : Mv β H β' H') {L' : Addr → Prop} (hL : ∀ a, L' a → L a ∨ H a = Option.none) : Lt L β H L' β' H' := by
  refine ⟨fun b o hb h1 h2 => m.keep b o (fun z => hb (.inr z)) h1 h2, fun a z => ?_, fun l a h => m.get h, m.live⟩
  rcases z with z | z
  · exact (hL a z).imp .inl id
  · obtain ⟨x, e, hx⟩ := m.ext
    rw [e] at z
    rcases List.mem_append.mp z with q | q
    · exact .inl (.inr q)
    · exact .inr (hx a q)
theorem Rd.lt {L' : Addr → Prop} (m : Lt L β H L' β' H') {a : Addr} {u : HO} (hu : ∀ ps, u ≠ .tbl ps) (n : ¬ Mu L β a) (r : Rd H a u) : ¬ Mu L' β' a ∧ Rd H' a u := by
  have ne : H a ≠ none := fun z => by rcases r with r | ⟨o, r⟩ <;> rw [z] at r <;> cases r
  refine ⟨fun z => (m.mu a z).elim n ne, ?_⟩
  rcases r with r | ⟨o, r⟩
  · exact .inl (m.keep a _ n r hu)
  · exact .inr ⟨o, m.keep a _ n r frz_tbl⟩
mutual
theorem Rp.lt {L' : Addr → Prop} (m : Lt L β H L' β' H') : ∀ (d : D) (v : V), Rp K L β H d v → Rp K L' β' H' d v
  | .none, v, h => by rw [Rp] at h ⊢; exact h
  | .bool b, v, h => by rw [Rp] at h ⊢; exact h
  | .int i, v, h => by rw [Rp] at h ⊢; exact h
  | .str x, v, h => by rw [Rp] at h ⊢; exact h
  | .tuple ds, v, h => by
    rw [Rp] at h ⊢
    obtain ⟨a, vs, e, q, z, r⟩ := h
    refine ⟨a, vs, e, ?_, z, Rps.lt m ds vs r⟩
    rcases q with ⟨n, q⟩ | q
    · exact .inl (Rd.lt m tup_tbl n q)
    · exact .inr q
  | .list ds, v, h => by
    rw [Rp] at h ⊢
    obtain ⟨a, vs, e, n, q, z, r⟩ := h
    obtain ⟨n', q'⟩ := Rd.lt m lst_tbl n q
    exact ⟨a, vs, e, n', q', z, Rps.lt m ds vs r⟩
  | .dict kvs, v, h => by
    rw [Rp] at h ⊢
    obtain ⟨l, a, e, q, z⟩ := h
    exact ⟨l, a, e, m.get l a q, z⟩
theorem Rps.lt {L' : Addr → Prop} (m : Lt L β H L' β' H') : ∀ (ds : List D) (vs : List V), Rps K L β H ds vs → Rps K L' β' H' ds vs
  | [], vs, h => by rw [Rps] at h ⊢; exact h
  | d :: ds, vs, h => by
    rw [Rps] at h ⊢
    obtain ⟨v, r, e, h1, h2⟩ := h
    exact ⟨v, r, e, Rp.lt m d v h1, Rps.lt m ds r h2⟩
end
end
end Pv
end
section
set_option linter.all false
set_option maxRecDepth 100000
set_option maxHeartbeats 2000000
namespace Pv
open PySem PySem.Spec PyProof.Rows L2
/-- a tuple once, or an empty one: itself -/
theorem tup_mul_same (l : Addr) (items : Array Value) (n : Nat) (dd : Option Addr) (sl : Array (Option Value)) (x : Int) (u : Tok) (h0 : (decide (x < -(2 ^ 63)) || decide (x ≥ 2 ^ 63)) = false) (h1 : (items.isEmpty || x == 1) = true) :
    Meets (Builtin.«tuple.__mul__» ⟨[.ref l, .int x u], []⟩) (fun _ R s => s.heap.get? l = some { cls := .type "tuple", dict := dd, data := .seq items n, slots := sl } ∧ R (.ok (.ret (Value.ref l))) s) :=
  .of_wp fun prog w A R s q => by
    obtain ⟨hp, g, d, tk, os⟩ := s
    obtain ⟨hl, q⟩ := q
    have ix := AutoSeq1.idx_int
    wp_walk using wpAny_loadPart' hl
    repeat (first
      | (refine wpAny_ite_false (decide_eq_false (by rw [h0]; decide)) ?_; wp_walk using wpAny_loadPart' hl)
      | (refine wpAny_ite_true (decide_eq_true h1) ?_; wp_walk using wpAny_loadPart' hl))
    exact ⟨_, rfl, q⟩
/-- a tuple no time: a new empty one -/
theorem tup_mul_none (l : Addr) (items : Array Value) (n : Nat) (dd : Option Addr) (sl : Array (Option Value)) (x : Int) (u : Tok) (h0 : (decide (x < -(2 ^ 63)) || decide (x ≥ 2 ^ 63)) = false) (h1 : (items.isEmpty || x == 1) = false) (h2 : (decide (x ≤ 0) || items.isEmpty) = true) :
    Meets (Builtin.«tuple.__mul__» ⟨[.ref l, .int x u], []⟩) (fun _ R s => s.heap.get? l = some { cls := .type "tuple", dict := dd, data := .seq items n, slots := sl } ∧
      R (.ok (.ret (Value.ref s.heap.objs.size))) { s with heap := s.heap.push { cls := .type "tuple", data := .seq #[] } }) :=
  .of_wp fun prog w A R s q => by
    obtain ⟨hp, g, d, tk, os⟩ := s
    obtain ⟨hl, q⟩ := q
    have ix := AutoSeq1.idx_int
    wp_walk using wpAny_loadPart' hl
    repeat (first
      | (refine wpAny_ite_false (decide_eq_false (by rw [h0]; decide)) ?_; wp_walk using wpAny_loadPart' hl)
      | (refine wpAny_ite_false (decide_eq_false (by rw [h1]; decide)) ?_; wp_walk using wpAny_loadPart' hl)
      | (refine wpAny_ite_true (decide_eq_true h2) ?_; wp_walk using wpAny_loadPart' hl))
    exact ⟨_, rfl, q⟩
section
variable {X : Cx}
/-- t * k, any k that is not great -/
theorem op_mulT {pins : List (Addr × Obj)} {s : Shared} {σ : L2.St} {H : Hp} {l : Addr} {k : Int} {t : Tok} {xs : List V} {Q : VK} (I : Inv X pins σ H s) (hT : SqT X.K H l xs) (h1 : -1000 ≤ k) (h2 : k ≤ 1000) (hz : xs.length ≤ 1000)
    (same : xs = [] ∨ k = 1 → Q (.ref l) H) (new : ¬ (xs = [] ∨ k = 1) → ∀ p, H p = none → Q (.ref p) (upd H p (.tup (List.replicate k.toNat xs).flatten))) :
    wpAny (model X.prog X.w) X.A (binaryOp .Mult (.ref l) (.int k t)) (EP X pins σ Q) X.xe s := by
  by_cases hk : 2 ≤ k ∧ xs ≠ []
  · exact op_repT pins s σ H (.ref l) (.int k) _ _ Q I rfl ⟨t, rfl⟩ ⟨l, k, xs, rfl, rfl, hT, hk.2, hk.1, h2, hz, new (fun z => z.elim hk.2 (by omega))⟩
  · obtain ⟨its, r, ⟨⟨cls, dd, data, sl⟩, ho, hc, n, hd⟩, hs⟩ := I.tuple hT
    simp only at hc hd
    subst hc hd
    have hle : its.length = xs.length := r.length.symm
    have h0 : (decide (k < -(2 ^ 63)) || decide (k ≥ 2 ^ 63)) = false := by
      rw [decide_eq_false (by omega), decide_eq_false (by omega)]; rfl
    by_cases hsame : xs = [] ∨ k = 1
    · have c1 : (its.toArray.isEmpty || k == 1) = true := by
        rcases hsame with z | z
        · rw [z] at hle
          rw [List.eq_nil_of_length_eq_zero hle]; rfl
        · rw [z, Bool.or_eq_true]; exact .inr rfl
      exact wpAny_binaryOp_repeat_ref (T := "tuple") (U := "int") (by decide) ⟨_, ho, rfl⟩ (fun s' => typeIs_int s' k t) noFill_tuple_mul F.fills_int_mul F.slot_int_rmul repeat_tuple F.slot_int_index.lookup
        (call_meets F.slot_int_rmul (typeIs_int s k t) F.entry_int_rmul (F.args_int_rmul_2 _ _) (int_rmul_tuple k t l its.toArray n dd sl)
          ⟨ho, rfl, ⟨_, ho, rfl⟩, call_meets F.slot_tuple_mul ⟨_, ho, rfl⟩ F.entry_tuple_mul (F.args_tuple_mul_2 _ _) (tup_mul_same l its.toArray n dd sl k t h0 c1) ⟨ho, .ref l, H, I, rfl, same hsame⟩⟩)
    · have hne : xs ≠ [] := fun z => hsame (.inl z)
      have hie : its.toArray.isEmpty = false := by
        cases its with
        | nil => exact absurd (List.eq_nil_of_length_eq_zero hle.symm) hne
        | cons a b => rfl
      have k0 : k ≤ 0 := by
        rcases Int.lt_or_le k 2 with q | q
        · have : k ≠ 1 := fun z => hsame (.inr z)
          omega
        · exact absurd ⟨q, hne⟩ hk
      have c1 : (its.toArray.isEmpty || k == 1) = false := by
        rw [hie, Bool.false_or]
        exact beq_eq_false_iff_ne.mpr (by omega)
      have c2 : (decide (k ≤ 0) || its.toArray.isEmpty) = true := by
        rw [decide_eq_true k0]; rfl
      have e0 : (List.replicate k.toNat xs).flatten = [] := by
        have : k.toNat = 0 := by omega
        rw [this]; rfl
      refine wpAny_binaryOp_repeat_ref (T := "tuple") (U := "int") (by decide) ⟨_, ho, rfl⟩ (fun s' => typeIs_int s' k t) noFill_tuple_mul F.fills_int_mul F.slot_int_rmul repeat_tuple F.slot_int_index.lookup
        (call_meets F.slot_int_rmul (typeIs_int s k t) F.entry_int_rmul (F.args_int_rmul_2 _ _) (int_rmul_tuple k t l its.toArray n dd sl)
          ⟨ho, rfl, ⟨_, ho, rfl⟩, call_meets F.slot_tuple_mul ⟨_, ho, rfl⟩ F.entry_tuple_mul (F.args_tuple_mul_2 _ _) (tup_mul_none l its.toArray n dd sl k t h0 c1 c2) ⟨ho, ?_⟩⟩)
      have hf : H s.heap.objs.size = none := I.hok.fresh (Nat.le_refl _)
      have q := new hsame _ hf
      rw [e0] at q
      refine ⟨.ref s.heap.objs.size, _, I.laid (t' := s.toks) (o := .tup []) (fun b ob e => Heap.get?_push_of_some _ e) (Nat.le_refl _) ?_, rfl, q⟩
      exact ⟨Nat.zero_le _, [], .nil, ⟨_, Heap.get?_push_size _ rfl, rfl, _, rfl⟩⟩
end
end Pv
end
section
set_option linter.all false
set_option maxRecDepth 100000
namespace Pv
open PySem PySem.Spec PyProof.Rows L2 LamX

/-! Pv3: the operations, by values -/
structure Bxs (K : PySem.W.Frag) (T : List (Addr × Str)) (L : Addr → Prop) (β : List Addr) (B : Bx) (H : Hp) : Prop where
  len : β.length = B.length
  nd : β.Nodup
  lk : ∀ a, L a → (∃ vs, H a = some (.lst vs)) ∧ a ∉ β
  at_ : ∀ (l : Nat) xs, B[l]? = some xs → ∃ a vs, β[l]? = some a ∧ H a = some (.lst vs) ∧ xs.length ≤ sizeLine ∧ Rps K L β H xs vs
  tabs : Tabs T H
/-- what may change stands in the heap -/
def Live (L : Addr → Prop) (β : List Addr) (H : Hp) : Prop := ∀ a, Mu L β a → ∃ o, H a = some o
theorem Bxs.live {K : PySem.W.Frag} {T : List (Addr × Str)} {L : Addr → Prop} {β : List Addr} {B : Bx} {H : Hp} (b : Bxs K T L β B H) : Live L β H := fun a h => by
  rcases h with h | h
  · obtain ⟨⟨vs, e⟩, _⟩ := b.lk a h; exact ⟨_, e⟩
  · obtain ⟨l, hl⟩ := List.getElem?_of_mem h
    have : l < B.length := by
      rw [← b.len]
      rcases Nat.lt_or_ge l β.length with z | z
      · exact z
      · rw [List.getElem?_eq_none z] at hl; cases hl
    obtain ⟨a', vs, h1, h2, _⟩ := b.at_ l B[l] (by simp [this])
    rw [hl] at h1; cases h1
    exact ⟨_, h2⟩
/-- a new list that nothing else names -/
def Fr (K : PySem.W.Frag) (L : Addr → Prop) (β : List Addr) (H H' : Hp) (d : D) (v : V) : Prop :=
  ∃ xs a vs, d = .list xs ∧ v = .ref a ∧ H a = none ∧ H' a = some (.lst vs) ∧ xs.length ≤ sizeLine ∧ Rps K (fun b => L b ∨ b = a) β H' xs vs
def Put (K : PySem.W.Frag) (L : Addr → Prop) (β : List Addr) (H : Hp) (r : R) (Q : VK) : Prop :=
  ∀ v H', (∀ b o, H b = some o → H' b = some o) → Rp K L β H' r.1 v → (r.2 = true → Fr K L β H H' r.1 v) → Q v H'
theorem sl24 : (16777216 : Nat) = sizeLine := by rw [sizeLine_eq]
section
variable {K : PySem.W.Frag} {L : Addr → Prop} {β : List Addr} {H : Hp} {Q : VK}
theorem put_int {i : Int} (h : Put K L β H (.int i, false) Q) : Q (.int i) H := h _ _ (fun _ _ e => e) (by rw [Rp]) (fun z => by cases z)
theorem put_bool {i : Bool} (h : Put K L β H (.bool i, false) Q) : Q (.bl i) H := h _ _ (fun _ _ e => e) (by rw [Rp]) (fun z => by cases z)
theorem put_str {i : Str} (h : Put K L β H (.str i, false) Q) : Q (.str i) H := h _ _ (fun _ _ e => e) (by rw [Rp]) (fun z => by cases z)
theorem put_old {d : D} {v : V} (h : Put K L β H (d, false) Q) (r : Rp K L β H d v) : Q v H := h _ _ (fun _ _ e => e) r (fun z => by cases z)
theorem keep_upd {p : Addr} {o : HO} (hp : H p = none) : ∀ b u, H b = some u → upd H p o b = some u := fun b u e => by
  rw [upd_ne (ne_of_none e hp)]; exact e
theorem put_tup {ds : List D} {vs : List V} {p : Addr} (lv : Live L β H) (h : Put K L β H (.tuple ds, false) Q) (r : Rps K L β H ds vs) (z : ds.length ≤ sizeLine) (hp : H p = none) : Q (.ref p) (upd H p (.tup vs)) := by
  refine h _ _ (keep_upd hp) ?_ (fun z => by cases z)
  show Rp K L β _ (.tuple ds) _
  rw [Rp]
  refine ⟨p, vs, rfl, .inl ⟨fun q => ?_, .inl upd_same⟩, z, r.mv (Mv.of (keep_upd hp))⟩
  obtain ⟨o, e⟩ := lv p q
  rw [hp] at e; cases e
theorem put_lst {ds : List D} {vs : List V} {p : Addr} {f : Bool} (lv : Live L β H) (h : Put K L β H (.list ds, f) Q) (r : Rps K L β H ds vs) (z : ds.length ≤ sizeLine) (hp : H p = none) : Q (.ref p) (upd H p (.lst vs)) := by
  have r' : Rps K L β (upd H p (.lst vs)) ds vs := r.mv (Mv.of (keep_upd hp))
  refine h _ _ (keep_upd hp) ?_ (fun _ => ⟨ds, p, vs, rfl, rfl, hp, upd_same, z, r.lt ((Mv.of (keep_upd hp)).lt fun a q => q.imp id fun q => by rw [q]; exact hp)⟩)
  show Rp K L β _ (.list ds) _
  rw [Rp]
  refine ⟨p, vs, rfl, fun q => ?_, .inl upd_same, z, r'⟩
  obtain ⟨o, e⟩ := lv p q
  rw [hp] at e; cases e
theorem Rb_none {v : V} (h : Rb K L β H .none v) : v = .non := by
  rcases h with h | ⟨_, _, _, e, _⟩
  · rw [Rp] at h; exact h
  · cases e
theorem Rb_int {i : Int} {v : V} (h : Rb K L β H (.int i) v) : v = .int i := by
  rcases h with h | ⟨_, _, _, e, _⟩
  · rw [Rp] at h; exact h
  · cases e
theorem Rb_bool {i : Bool} {v : V} (h : Rb K L β H (.bool i) v) : v = .bl i := by
  rcases h with h | ⟨_, _, _, e, _⟩
  · rw [Rp] at h; exact h
  · cases e
theorem Rb_str {i : Str} {v : V} (h : Rb K L β H (.str i) v) : v = .str i := by
  rcases h with h | ⟨_, _, _, e, _⟩
  · rw [Rp] at h; exact h
  · cases e
theorem Rp_tup {ds : List D} {v : V} (h : Rp K L β H (.tuple ds) v) : ∃ a vs, v = .ref a ∧ SqT K H a vs ∧ ds.length ≤ sizeLine ∧ Rps K L β H ds vs := by
  rw [Rp] at h
  obtain ⟨a, vs, e, q, z, r⟩ := h
  refine ⟨a, vs, e, ?_, z, r⟩
  rcases q with ⟨_, q⟩ | q
  · exact .inl q
  · exact .inr q
theorem Rb_tup {ds : List D} {v : V} (h : Rb K L β H (.tuple ds) v) : ∃ a vs, v = .ref a ∧ SqT K H a vs ∧ ds.length ≤ sizeLine ∧ Rps K L β H ds vs := by
  rcases h with h | ⟨_, _, _, e, _⟩
  · exact Rp_tup h
  · cases e
theorem Rb_lst {ds : List D} {v : V} (h : Rb K L β H (.list ds) v) : ∃ a vs, v = .ref a ∧ SqL K H a vs ∧ ds.length ≤ sizeLine ∧ Rps K L β H ds vs := by
  rcases h with h | ⟨xs, a, vs, e, ev, n, q, z, r⟩
  · rw [Rp] at h
    obtain ⟨a, vs, e, n, q, z, r⟩ := h
    exact ⟨a, vs, e, .inl q, z, r⟩
  · cases e
    exact ⟨a, vs, ev, .inl (.inl q), z, r⟩
theorem Rb_lstR {ds : List D} {v : V} (h : Rb K L β H (.list ds) v) : ∃ a vs, v = .ref a ∧ Rd H a (.lst vs) ∧ ds.length ≤ sizeLine ∧ Rps K L β H ds vs := by
  rcases h with h | ⟨xs, a, vs, e, ev, n, q, z, r⟩
  · rw [Rp] at h
    obtain ⟨a, vs, e, n, q, z, r⟩ := h
    exact ⟨a, vs, e, q, z, r⟩
  · cases e
    exact ⟨a, vs, ev, .inl q, z, r⟩
theorem Rb_ref {kvs : List (D × D)} {v : V} (h : Rb K L β H (.dict kvs) v) : ∃ l a, isRef (.dict kvs) = some l ∧ β[l]? = some a ∧ v = .ref a := by
  rcases h with h | ⟨_, _, _, e, _⟩
  · rw [Rp] at h; exact h
  · cases e
mutual
theorem Rp_dp : ∀ (d : D) (v : V), d.plain = true → Rp K L β H d v → Dp K H v d
  | .none, v, _, h => by rw [Rp] at h; subst h; exact .non
  | .bool b, v, _, h => by rw [Rp] at h; subst h; exact .bl b
  | .int b, v, _, h => by rw [Rp] at h; subst h; exact .int b
  | .str b, v, _, h => by rw [Rp] at h; subst h; exact .str b
  | .tuple ds, v, p, h => by
    obtain ⟨a, vs, e, q, z, r⟩ := Rp_tup h
    subst e
    rw [PyData.plain] at p
    exact .tup q (Rps_dp ds vs p r)
  | .list ds, v, p, h => by
    obtain ⟨a, vs, e, q, z, r⟩ := Rb_lst (.inl h)
    subst e
    rw [PyData.plain] at p
    exact .lst q (Rps_dp ds vs p r)
  | .dict kvs, v, p, h => by rw [PyData.plain] at p; cases p
theorem Rps_dp : ∀ (ds : List D) (vs : List V), PyData.plainAll ds = true → Rps K L β H ds vs → DpAll K H vs ds
  | [], vs, _, h => by rw [Rps] at h; subst h; exact .nil
  | d :: ds, vs, p, h => by
    rw [Rps] at h
    obtain ⟨v, r, e, h1, h2⟩ := h
    subst e
    rw [PyData.plainAll, Bool.and_eq_true] at p
    exact .cons (Rp_dp d v p.1 h1) (Rps_dp ds r p.2 h2)
end
theorem Rb_dp {d : D} {v : V} (p : d.plain = true) (h : Rb K L β H d v) : Dp K H v d := by
  rcases h with h | ⟨xs, a, vs, e, ev, n, q, z, r⟩
  · exact Rp_dp d v p h
  · subst e ev
    rw [PyData.plain] at p
    exact .lst (.inl (.inl q)) (Rps_dp xs vs p r)
theorem Rps_ints : ∀ {ds : List D} {vs : List V} {ns : List Int}, Rps K L β H ds vs → intsOf ds = some ns → vs = ns.map V.int
  | [], vs, ns, h, e => by
    rw [Rps] at h
    cases e
    exact h
  | d :: ds, vs, ns, h, e => by
    rw [Rps] at h
    obtain ⟨v, r, ev, h1, h2⟩ := h
    subst ev
    cases d with
    | int i =>
      rw [intsOf] at e
      cases q : intsOf ds with
      | none => rw [q] at e; cases e
      | some ms =>
        rw [q] at e
        cases e
        rw [Rp] at h1
        rw [h1, Rps_ints h2 q]
        rfl
    | _ => rw [intsOf] at e <;> first | cases e | (intro z; cases z)
theorem Rps_bools : ∀ {ds : List D} {vs : List V} {ns : List Bool}, Rps K L β H ds vs → boolsOf ds = some ns → vs = ns.map V.bl
  | [], vs, ns, h, e => by
    rw [Rps] at h
    cases e
    exact h
  | d :: ds, vs, ns, h, e => by
    rw [Rps] at h
    obtain ⟨v, r, ev, h1, h2⟩ := h
    subst ev
    cases d with
    | bool i =>
      rw [boolsOf] at e
      cases q : boolsOf ds with
      | none => rw [q] at e; cases e
      | some ms =>
        rw [q] at e
        cases e
        rw [Rp] at h1
        rw [h1, Rps_bools h2 q]
        rfl
    | _ => rw [boolsOf] at e <;> first | cases e | (intro z; cases z)
end

/-! ### two-place operations -/
def rBin (K : PySem.W.Frag) (o : Operator) : R2 := fun x y H Q => ∃ L β dx dy r, Live L β H ∧ Rb K L β H dx x ∧ Rb K L β H dy y ∧ binD o dx dy = some r ∧ Put K L β H r Q
section
variable {X : Cx}
theorem op_catQ {pins : List (Addr × Obj)} {s : Shared} {σ : L2.St} {H : Hp} {a b : Addr} {xs zs : List V} {Q : VK} (I : Inv X pins σ H s) (h1 : Rd H a (.lst xs)) (h2 : Rd H b (.lst zs)) (hz : xs.length + zs.length ≤ sizeLine)
    (q : ∀ p, H p = none → Q (.ref p) (upd H p (.lst (xs ++ zs)))) : wpAny (model X.prog X.w) X.A (binaryOp .Add (.ref a) (.ref b)) (EP X pins σ Q) X.xe s := by
  obtain ⟨z, its, n, r, ho⟩ := h1.ok I.hok
  obtain ⟨z2, its2, n2, r2, ho2⟩ := h2.ok I.hok
  have l1 := r.length
  have l2 := r2.length
  refine PySem.P.add_list ho ho2 ?_ (by show its.toArray.size + its2.toArray.size ≤ sizeLine; rw [List.size_toArray, List.size_toArray]; omega)
  have ea : its.toArray ++ its2.toArray = (its ++ its2).toArray := by simp
  rw [ea]
  exact ⟨.ref s.heap.objs.size, _, I.lnew (t' := s.toks) (r.append r2) (by rw [List.length_append]; omega), rfl, q _ I.fresh⟩
theorem rep_len0 {α : Type} (xs : List α) (n : Nat) : (List.replicate n xs).flatten.length = xs.length * n := by
  rw [List.length_flatten, List.map_replicate, List.sum_replicate_nat, Nat.mul_comm]
theorem rep_arr (us : List Value) (c : Nat) : List.foldl (fun p q => p ++ q) #[] (List.replicate (if us.toArray.isEmpty = true then 0 else c) us.toArray) = (List.replicate c us).flatten.toArray := by
  have g : ∀ d : Nat, List.foldl (fun p q => p ++ q) #[] (List.replicate d us.toArray) = (List.replicate d us).flatten.toArray := fun d => by
    have w := L2.foldl_rep us d []
    rwa [List.nil_append] at w
  rw [g]
  cases us with
  | nil => simp
  | cons u w => rw [if_neg (by simp)]
/-- a list times an int, frozen or not -/
theorem op_repQ {pins : List (Addr × Obj)} {s : Shared} {σ : L2.St} {H : Hp} {a : Addr} {c : Int} {t : Tok} {xs : List V} {Q : VK} (I : Inv X pins σ H s) (h1 : Rd H a (.lst xs)) (k1 : -1000 ≤ c) (k2 : c ≤ 1000) (hz : xs.length ≤ 1000)
    (q : ∀ p, H p = none → Q (.ref p) (upd H p (.lst (List.replicate c.toNat xs).flatten))) : wpAny (model X.prog X.w) X.A (binaryOp .Mult (.ref a) (.int c t)) (EP X pins σ Q) X.xe s := by
  obtain ⟨z, us, n, rv, ho⟩ := h1.ok I.hok
  have l1 := rv.length
  have mm : us.toArray.size * c.toNat ≤ 1000 * 1000 := by
    rw [List.size_toArray, ← l1]
    exact Nat.mul_le_mul hz (by omega)
  have s24 : (16777216 : Nat) = sizeLine := by rw [sizeLine_eq]
  have w1 : ¬ (!Builtin.List.listFitsIndex c) = true := by
    rw [fitsIndex_both (by omega) (by omega)]
    decide
  have w2 : ¬ us.toArray.size * c.toNat > (2 ^ 63 - 1) / 8 := by omega
  have w3 : ¬ Builtin.List.listTooLong (us.toArray.size * c.toNat) = true := by
    rw [notLongL (by omega)]
    decide
  refine wpAny_binaryOp_repeat_ref (T := "list") (U := "int") (by decide) ⟨_, ho, rfl⟩ (fun s2 => typeIs_int s2 c t) noFill_list_mul F.fills_int_mul F.slot_int_rmul repeat_list F.slot_int_index.lookup ?_
  refine call_meets F.slot_int_rmul (typeIs_int s c t) F.entry_int_rmul (F.args_int_rmul_2 _ _) (int___rmul___int_list c t a us.toArray n) ⟨ho, rfl, ⟨_, ho, rfl⟩, ?_⟩
  refine call_meets F.slot_list_mul ⟨_, ho, rfl⟩ F.entry_list_mul (F.args_list_mul_2 _ _) (AutoListH.list___mul___list_int_3 a us.toArray n c t w1 w2 w3) ⟨ho, ?_⟩
  rw [rep_arr]
  exact ⟨.ref _, _, I.lnew (t' := s.toks) (rv.rep c.toNat) (by rw [rep_len0]; have := Nat.mul_le_mul hz (show c.toNat ≤ 1000 by omega); omega), rfl, q _ I.fresh⟩
theorem rep_flat {K : PySem.W.Frag} {L : Addr → Prop} {β : List Addr} {H : Hp} {ds : List D} {vs : List V} (h : Rps K L β H ds vs) : ∀ n : Nat, Rps K L β H (List.replicate n ds).flatten (List.replicate n vs).flatten
  | 0 => by simpa using Rps.nil
  | n + 1 => by
    rw [List.replicate_succ, List.replicate_succ, List.flatten_cons, List.flatten_cons]
    exact h.append (rep_flat h n)
theorem rep_len {α : Type} (xs : List α) (n : Nat) : (List.replicate n xs).flatten.length = xs.length * n := by
  rw [List.length_flatten, List.map_replicate, List.sum_replicate_nat, Nat.mul_comm]
theorem mul_of {i j : Int} (h : mulOk i j = true) : CMul i j ∨ CMulW i j := by
  unfold mulOk at h
  simp only [Bool.or_eq_true, Bool.and_eq_true, decide_eq_true_eq] at h
  rcases h with (h | h) | h
  · exact .inl (.inl h)
  · exact .inl (.inr h)
  · exact .inr (wide_mul (a := 4096) (b := 4096) h.1 h.2 (by decide) (by decide) (by decide))
theorem op_bin (o : Operator) : OpR X (binaryOp o) (rBin X.K o) := by
  intro pins s σ H x y v u Q I rx ry h
  obtain ⟨L, β, dx, dy, r, lv, hx, hy, e, put⟩ := h
  unfold binD at e
  split at e
  · cases e
    rw [Rb_int hx] at rx; rw [Rb_int hy] at ry
    exact op_add pins s σ H _ _ v u Q I rx ry ⟨_, _, rfl, rfl, put_int put⟩
  · rename_i a b
    split at e
    · rename_i hl
      cases e
      rw [Rb_str hx] at rx; rw [Rb_str hy] at ry
      exact op_add_str pins s σ H _ _ v u Q I rx ry ⟨_, _, rfl, rfl, by rw [← sl24]; exact hl, put_str put⟩
    · cases e
  · rename_i a b
    split at e
    · rename_i hl
      cases e
      obtain ⟨p, vs, ex, qx, zx, rx'⟩ := Rb_tup hx
      obtain ⟨q, ws, ey, qy, zy, ry'⟩ := Rb_tup hy
      have l1 := rx'.length
      have l2 := ry'.length
      rw [ex] at rx hx; rw [ey] at ry hy
      refine op_catA pins s σ H _ _ v u Q I rx ry ⟨p, q, vs, ws, rfl, rfl, qx, qy, by rw [← sl24, l1, l2]; exact hl, fun z => ?_, fun z1 z2 => ?_, fun z1 z2 w hw => ?_⟩
      · subst z
        have : a = [] := List.eq_nil_of_length_eq_zero (by simpa using l1.symm)
        subst this
        rw [List.nil_append] at put
        refine put_old put ?_
        rcases hy with h | ⟨_, _, _, e, _⟩
        · exact h
        · cases e
      · subst z2
        have : b = [] := List.eq_nil_of_length_eq_zero (by simpa using l2.symm)
        subst this
        rw [List.append_nil] at put
        refine put_old put ?_
        rcases hx with h | ⟨_, _, _, e, _⟩
        · exact h
        · cases e
      · exact put_tup lv put (rx'.append ry') (by rw [List.length_append, ← sl24]; exact hl) hw
    · cases e
  · rename_i a b
    split at e
    · rename_i hl
      cases e
      obtain ⟨p, vs, ex, qx, zx, rx'⟩ := Rb_lstR hx
      obtain ⟨q, ws, ey, qy, zy, ry'⟩ := Rb_lstR hy
      have l1 := rx'.length
      have l2 := ry'.length
      rw [ex] at rx; rw [ey] at ry
      cases rx; cases ry
      exact op_catQ I qx qy (by rw [← sl24, l1, l2]; exact hl) fun w hw => put_lst lv put (rx'.append ry') (by rw [List.length_append, ← sl24]; exact hl) hw
    · cases e
  · cases e
    rw [Rb_int hx] at rx; rw [Rb_int hy] at ry
    exact op_sub pins s σ H _ _ v u Q I rx ry ⟨_, _, rfl, rfl, put_int put⟩
  · split at e
    · rename_i hm
      cases e
      rw [Rb_int hx] at rx; rw [Rb_int hy] at ry
      rcases mul_of hm with hm | hm
      · exact op_mul pins s σ H _ _ v u Q I rx ry ⟨_, _, rfl, rfl, hm, put_int put⟩
      · exact op_mulW pins s σ H _ _ v u Q I rx ry ⟨_, _, rfl, rfl, hm, put_int put⟩
    · cases e
  · rename_i a b
    split at e
    · rename_i hl
      cases e
      obtain ⟨p, vs, ex, qx, zx, rx'⟩ := Rb_lstR hx
      have l1 := rx'.length
      rw [ex] at rx; rw [Rb_int hy] at ry
      cases rx
      obtain ⟨t, rfl⟩ := ry
      refine op_repQ I qx hl.1 hl.2.1 (by rw [l1]; exact hl.2.2) fun w hw => put_lst lv put (rep_flat rx' _) ?_ hw
      rw [rep_len, ← sl24]
      have : a.length * b.toNat ≤ 1000 * 1000 := Nat.mul_le_mul hl.2.2 (by omega)
      omega
    · cases e
  · rename_i a b
    split at e
    · rename_i hl
      cases e
      obtain ⟨p, vs, ex, qx, zx, rx'⟩ := Rb_tup hx
      have l1 := rx'.length
      rw [ex] at rx; rw [Rb_int hy] at ry
      cases rx
      obtain ⟨t, rfl⟩ := ry
      refine op_mulT I qx hl.1 hl.2.1 (by rw [l1]; exact hl.2.2) (fun hsame => ?_) fun _ w hw => ?_
      · have e : (List.replicate b.toNat a).flatten = a := by
          rcases hsame with z | z
          · have : a = [] := List.eq_nil_of_length_eq_zero (by rw [← l1, z]; rfl)
            rw [this]; simp
          · rw [z]; simp
        rw [e] at put
        refine put_old put ?_
        rcases hx with h | ⟨_, _, _, e, _⟩
        · rw [← ex]; exact h
        · cases e
      · refine put_tup lv put (rep_flat rx' _) ?_ hw
        rw [rep_len, ← sl24]
        have : a.length * b.toNat ≤ 1000 * 1000 := Nat.mul_le_mul hl.2.2 (by omega)
        omega
    · cases e
  · split at e
    · rename_i hm
      cases e
      rw [Rb_int hx] at rx; rw [Rb_int hy] at ry
      exact op_fdivN pins s σ H _ _ v u Q I rx ry ⟨_, _, rfl, rfl, hm, put_int put⟩
    · cases e
  · split at e
    · rename_i hm
      cases e
      rw [Rb_int hx] at rx; rw [Rb_int hy] at ry
      exact op_modN pins s σ H _ _ v u Q I rx ry ⟨_, _, rfl, rfl, hm, put_int put⟩
    · cases e
  · split at e
    · rename_i hm
      cases e
      rw [Rb_int hx] at rx; rw [Rb_int hy] at ry
      exact op_pow pins s σ H _ _ v u Q I rx ry ⟨_, _, rfl, rfl, hm, put_int put⟩
    · cases e
  · cases e
end
end Pv
end
section
set_option linter.all false
set_option maxRecDepth 100000
namespace Pv
open PySem PySem.Spec PySem.SeqAt PyProof.Rows L2 LamX

/-! Pv4: comparisons, truth, subscripts, slices -/
theorem lexLt_eq : ∀ (a b : List Int), lexLt a b = HT.lexLt a b
  | [], [] => rfl
  | [], _ :: _ => rfl
  | _ :: _, [] => rfl
  | x :: xs, y :: ys => by rw [lexLt, HT.lexLt_cons, lexLt_eq xs ys]
/-- <= from the first pair that differs on, as lexAt says it -/
theorem lexAt_shift {e r : Nat → Bool} {z : Bool} : ∀ (k i : Nat), Ob.lexAt e r z (i + 1) k = Ob.lexAt (fun j => e (j + 1)) (fun j => r (j + 1)) z i k
  | 0, i => rfl
  | k + 1, i => by
    rw [Ob.lexAt_succ, Ob.lexAt_succ, lexAt_shift k (i + 1)]
theorem le_lex : ∀ (a b : List Int), Ob.lexAt (fun j => decide (a.getD j 0 = b.getD j 0)) (fun j => decide (a.getD j 0 ≤ b.getD j 0)) (decide (a.length ≤ b.length)) 0 (min a.length b.length) = !lexLt b a
  | [], [] => rfl
  | [], _ :: _ => by simp [Ob.lexAt_zero, lexLt]
  | _ :: _, [] => by simp [Ob.lexAt_zero, lexLt]
  | x :: xs, y :: ys => by
    have ih := le_lex xs ys
    rw [List.length_cons, List.length_cons, Nat.succ_min_succ, Ob.lexAt_succ, lexAt_shift, lexLt]
    simp only [List.getD_cons_zero, List.getD_cons_succ, Nat.add_le_add_iff_right, decide_eq_true_eq]
    by_cases h : x = y
    · subst h
      rw [if_pos rfl, if_pos rfl]
      exact ih
    · rw [if_neg h, if_neg (fun z => h z.symm), ← decide_not]
      exact decide_eq_decide.mpr (by omega)
def rCmp (K : PySem.W.Frag) (o : CmpOp) : R2 := fun x y H Q => ∃ L β dx dy b, Rb K L β H dx x ∧ Rb K L β H dy y ∧ cmpD o dx dy = some b ∧ Q (.bl b) H
section
variable {X : Cx}
theorem op_eqP (hu : X.A.units + 80 < cLine) {pins : List (Addr × Obj)} {s : Shared} {σ : L2.St} {H : Hp} {L : Addr → Prop} {β : List Addr} {dx dy : D} {x y : V} {v u : Value} {b : Bool} (I : Inv X pins σ H s) (rx : RelV x v) (ry : RelV y u)
    (hx : Rb X.K L β H dx x) (hy : Rb X.K L β H dy y) (e : eqD dx dy = some b) : ∃ as bs, Reads s.heap v dx as ∧ Reads s.heap u dy bs ∧ dx.plain = true ∧ dy.plain = true ∧ X.A.units + min dx.depth dy.depth < cLine ∧ b = PyData.eqv dx dy := by
  unfold eqD at e
  split at e
  · rename_i h
    cases e
    simp only [Bool.and_eq_true, decide_eq_true_eq] at h
    obtain ⟨as, r1⟩ := Dp.reads I dx x v (Rb_dp h.1.1 hx) rx
    obtain ⟨bs, r2⟩ := Dp.reads I dy y u (Rb_dp h.1.2 hy) ry
    exact ⟨as, bs, r1, r2, h.1.1, h.1.2, by omega, rfl⟩
  · cases e
theorem in_of (hu : X.A.units + 80 < cLine) {neg : Bool} {pins : List (Addr × Obj)} {s : Shared} {σ : L2.St} {H : Hp} {L : Addr → Prop} {β : List Addr} {dx dy : D} {x y : V} {v u : Value} {b : Bool} {Q : VK} (I : Inv X pins σ H s) (rx : RelV x v) (ry : RelV y u)
    (hx : Rb X.K L β H dx x) (hy : Rb X.K L β H dy y) (e : inD dx dy = some b) (q : Q (.bl (if neg then !b else b)) H) : wpAny (model X.prog X.w) X.A (compareOp (if neg then .NotIn else .In) v u) (EP X pins σ Q) X.xe s := by
  unfold inD at e
  cases dy with
  | list xs =>
    simp only [itemsOf] at e
    split at e
    · rename_i h
      cases e
      simp only [Bool.and_eq_true, decide_eq_true_eq] at h
      have p2 : (PyData.list xs).plain = true := by rw [PyData.plain]; exact h.1.2
      obtain ⟨as, r1⟩ := Dp.reads I dx x v (Rb_dp h.1.1 hx) rx
      obtain ⟨bs, r2⟩ := Dp.reads I _ y u (Rb_dp p2 hy) ry
      cases neg
      · exact in_list_data r2 r1 h.1.2 h.1.1 (by omega) ⟨.bl _, H, I, rfl, q⟩
      · exact notIn_list_data r2 r1 h.1.2 h.1.1 (by omega) ⟨.bl _, H, I, rfl, q⟩
    · cases e
  | tuple xs =>
    simp only [itemsOf] at e
    split at e
    · rename_i h
      cases e
      simp only [Bool.and_eq_true, decide_eq_true_eq] at h
      have p2 : (PyData.tuple xs).plain = true := by rw [PyData.plain]; exact h.1.2
      obtain ⟨as, r1⟩ := Dp.reads I dx x v (Rb_dp h.1.1 hx) rx
      obtain ⟨bs, r2⟩ := Dp.reads I _ y u (Rb_dp p2 hy) ry
      cases neg
      · exact in_tuple_data r2 r1 h.1.2 h.1.1 (by omega) ⟨.bl _, H, I, rfl, q⟩
      · exact notIn_tuple_data r2 r1 h.1.2 h.1.1 (by omega) ⟨.bl _, H, I, rfl, q⟩
    · cases e
  | _ => simp only [itemsOf] at e; cases e
theorem isN_of {d : D} {x : V} {K : PySem.W.Frag} {L : Addr → Prop} {β : List Addr} {H : Hp} (h : Rb K L β H d x) : decide (x = .non) = isNone d := by
  cases d with
  | none => have e := Rb_none h; subst e; rfl
  | bool b => have e := Rb_bool h; subst e; rfl
  | int b => have e := Rb_int h; subst e; rfl
  | str b => have e := Rb_str h; subst e; rfl
  | list b => obtain ⟨a, vs, e, _⟩ := Rb_lst h; subst e; rfl
  | tuple b => obtain ⟨a, vs, e, _⟩ := Rb_tup h; subst e; rfl
  | dict b => obtain ⟨a, vs, _, _, e⟩ := Rb_ref h; subst e; rfl
theorem map_not {a : Option Bool} {b : Bool} (h : a.map (!·) = some b) : ∃ c, a = some c ∧ b = !c := by
  cases a with
  | none => cases h
  | some c => exact ⟨c, rfl, (Option.some.inj h).symm⟩
theorem lt_of {a c : List D} {b : Bool} (h : tupsLt a c = some b) : ∃ ns ms, intsOf a = some ns ∧ intsOf c = some ms ∧ b = lexLt ns ms := by
  unfold tupsLt at h
  cases h1 : intsOf a with
  | none => rw [h1] at h; cases h
  | some ns =>
    cases h2 : intsOf c with
    | none => rw [h1, h2] at h; cases h
    | some ms =>
      rw [h1, h2] at h
      cases h
      exact ⟨ns, ms, rfl, rfl, rfl⟩
theorem op_cmp (hu : X.A.units + 80 < cLine) (o : CmpOp) : OpR X (compareOp o) (rCmp X.K o) := by
  intro pins s σ H x y v u Q I rx ry h
  obtain ⟨L, β, dx, dy, b, hx, hy, e, q⟩ := h
  cases o with
  | Eq =>
    replace e : eqD dx dy = some b := e
    obtain ⟨as, bs, r1, r2, p1, p2, hd, eb⟩ := op_eqP hu I rx ry hx hy e
    subst eb
    exact eq_plain r1 r2 p1 p2 hd ⟨.bl _, H, I, rfl, q⟩
  | NotEq =>
    obtain ⟨c, he, eb⟩ := map_not (show (eqD dx dy).map (!·) = some b from e)
    subst eb
    obtain ⟨as, bs, r1, r2, p1, p2, hd, eb⟩ := op_eqP hu I rx ry hx hy he
    subst eb
    exact ne_plain r1 r2 p1 p2 hd ⟨.bl _, H, I, rfl, q⟩
  | Lt =>
    replace e : ltD dx dy = some b := e
    unfold ltD at e
    split at e
    · cases e
      rw [Rb_int hx] at rx; rw [Rb_int hy] at ry
      exact op_lt pins s σ H _ _ v u Q I rx ry ⟨_, _, rfl, rfl, q⟩
    · obtain ⟨ns, ms, e1, e2, rfl⟩ := lt_of e
      obtain ⟨p, vs, ex, qx, zx, rx'⟩ := Rb_tup hx
      obtain ⟨p2, ws, ey, qy, zy, ry'⟩ := Rb_tup hy
      rw [ex] at rx; rw [ey] at ry
      rw [Rps_ints rx' e1] at qx; rw [Rps_ints ry' e2] at qy
      exact op_ltT (by omega) pins s σ H _ _ v u Q I rx ry ⟨p, p2, ns, ms, rfl, rfl, qx, qy, by rw [← lexLt_eq]; exact q⟩
    · cases e
  | LtE =>
    replace e : leD dx dy = some b := e
    unfold leD at e
    split at e
    · cases e
      rw [Rb_int hx] at rx; rw [Rb_int hy] at ry
      exact op_le pins s σ H _ _ v u Q I rx ry ⟨_, _, rfl, rfl, q⟩
    · obtain ⟨k, he, rfl⟩ := map_not e
      obtain ⟨ms, ns, e2, e1, rfl⟩ := lt_of he
      obtain ⟨p, vs, ex, qx, zx, rx'⟩ := Rb_tup hx
      obtain ⟨p2, ws, ey, qy, zy, ry'⟩ := Rb_tup hy
      rw [ex] at rx; rw [ey] at ry
      rw [Rps_ints rx' e1] at qx; rw [Rps_ints ry' e2] at qy
      exact op_leT (by omega) pins s σ H _ _ v u Q I rx ry ⟨p, p2, ns, ms, rfl, rfl, qx, qy, by rw [le_lex]; exact q⟩
    · cases e
  | Gt =>
    replace e : gtD dx dy = some b := e
    unfold gtD at e
    split at e
    · cases e
      rw [Rb_int hx] at rx; rw [Rb_int hy] at ry
      exact op_gt pins s σ H _ _ v u Q I rx ry ⟨_, _, rfl, rfl, q⟩
    · cases e
  | GtE =>
    replace e : geD dx dy = some b := e
    unfold geD at e
    split at e
    · cases e
      rw [Rb_int hx] at rx; rw [Rb_int hy] at ry
      exact op_ge pins s σ H _ _ v u Q I rx ry ⟨_, _, rfl, rfl, q⟩
    · cases e
  | In => exact in_of (neg := false) hu I rx ry hx hy e q
  | NotIn =>
    obtain ⟨c, he, rfl⟩ := map_not (show (inD dx dy).map (!·) = some b from e)
    exact in_of (neg := true) hu I rx ry hx hy he q
  | Is =>
    replace e : isD dx dy = some b := e
    unfold isD at e
    split at e
    · cases e
      rw [Rb_none hy] at ry
      exact op_isN pins s σ H _ _ v u Q I rx ry ⟨rfl, by rw [isN_of hx]; exact q⟩
    · cases e
  | IsNot =>
    obtain ⟨c, he, rfl⟩ := map_not (show (isD dx dy).map (!·) = some b from e)
    unfold isD at he
    split at he
    · cases he
      rw [Rb_none hy] at ry
      exact op_notN pins s σ H _ _ v u Q I rx ry ⟨rfl, by rw [isN_of hx]; exact q⟩
    · cases he
end
end Pv
end
section
set_option linter.all false
set_option maxRecDepth 100000
namespace Pv
open PySem PySem.Spec PySem.SeqAt PyProof.Rows L2 LamX

/-! Pv5: truth, subscripts, slices, calls of what is built in -/
theorem isEmpty_len {α γ : Type} {xs : List α} {ys : List γ} (h : xs.length = ys.length) : xs.isEmpty = ys.isEmpty := by
  cases xs <;> cases ys <;> first | rfl | cases h
section
variable {K : PySem.W.Frag} {L : Addr → Prop} {β : List Addr} {H : Hp}
theorem truV {d : D} {v : V} {b : Bool} (h : Rb K L β H d v) (e : truth d = some b) : TruV K v H b := by
  cases d with
  | none => have q := Rb_none h; subst q; cases e; rfl
  | bool c => have q := Rb_bool h; subst q; cases e; rfl
  | int c => have q := Rb_int h; subst q; cases e; rfl
  | str c =>
    have q := Rb_str h; subst q
    simp only [truth] at e
    split at e
    · rename_i hl
      cases e
      refine ⟨by rw [← sl24]; exact hl, ?_⟩
      show (c.length != 0) = ((c.length : Int) != 0)
      cases c.length <;> rfl
    · cases e
  | list xs =>
    obtain ⟨a, vs, q, s, z, r⟩ := Rb_lst h
    subst q; cases e
    exact .inl ⟨vs, s, by rw [isEmpty_len r.length]⟩
  | tuple xs =>
    obtain ⟨a, vs, q, s, z, r⟩ := Rb_tup h
    subst q; cases e
    exact .inr (.inl ⟨vs, s, by rw [isEmpty_len r.length]⟩)
  | dict kvs => cases e
theorem at_V {ds : List D} {vs : List V} {i : Int} {d : D} (r : Rps K L β H ds vs) (e : atIx ds i = some d) : ∃ v, L2.atI vs i = some v ∧ Rp K L β H d v := by
  unfold atIx ixN' at e
  unfold L2.atI ixN
  rw [r.length]
  revert e
  generalize (if 0 ≤ i then if i < (ds.length : Int) then some i.toNat else none else if -(ds.length : Int) ≤ i then some (i + ds.length).toNat else none) = o
  intro e
  cases o with
  | none => cases e
  | some j => exact r.get e
theorem cut_V {ds : List D} {vs : List V} {a b : Option Int} (r : Rps K L β H ds vs) : Rps K L β H (cut ds a b) (cutV vs a b) := by
  have e : ∀ n d o, sIx' n d o = HT.sIx n d o := fun n d o => by cases o <;> rfl
  unfold cut cutV
  rw [r.length, e, e]
  exact (r.drop _).take _
theorem cut_len {α : Type} (xs : List α) (a b : Option Int) : (cut xs a b).length ≤ xs.length := by
  unfold cut
  rw [List.length_take, List.length_drop]
  omega
theorem cut_all {α : Type} (xs : List α) (a b : Option Int) (h : HT.sIx xs.length 0 a = 0 ∧ HT.sIx xs.length xs.length b = xs.length) : cut xs a b = xs := by
  have e : ∀ n d o, sIx' n d o = HT.sIx n d o := fun n d o => by cases o <;> rfl
  unfold cut
  rw [e, e, h.1, h.2]
  simp
end
def rIx (K : PySem.W.Frag) : R2 := fun x y H Q => ∃ T L β B dx dy d, Bxs K T L β B H ∧ Rb K L β H dx x ∧ Rb K L β H dy y ∧ idxD B dx dy = some d ∧ ∀ v, Rp K L β H d v → Q v H
def rSl (K : PySem.W.Frag) : V → Option Int → Option Int → Hp → VK → Prop := fun x lo hi H Q => ∃ L β dx r, Live L β H ∧ Rb K L β H dx x ∧ slcP dx lo hi = some r ∧ Put K L β H r Q
section
variable {X : Cx}
theorem ix_d : IxR X (rIx X.K) := by
  intro value slice pins s σ H x y v u Q I rx ry h hs
  obtain ⟨T, L, β, B, dx, dy, d, bx, hx, hy, e, q⟩ := h
  unfold idxD at e
  split at e
  · obtain ⟨a, vs, ev, sv, z, r⟩ := Rb_lst hx
    have ey := Rb_int hy
    subst ev ey
    obtain ⟨w, e1, e2⟩ := at_V r e
    exact ix_list value slice pins s σ H _ _ v u Q I rx ry ⟨a, vs, _, w, rfl, rfl, sv, e1, q w e2⟩ hs
  · obtain ⟨a, vs, ev, sv, z, r⟩ := Rb_tup hx
    have ey := Rb_int hy
    subst ev ey
    obtain ⟨w, e1, e2⟩ := at_V r e
    exact ix_tup value slice pins s σ H _ _ v u Q I rx ry ⟨a, vs, _, w, rfl, rfl, sv, e1, q w e2⟩ hs
  · obtain ⟨l, a, el, ea, ev⟩ := Rb_ref hx
    have ey := Rb_int hy
    subst ev ey
    rw [el] at e
    simp only at e
    cases hb : B[l]? with
    | none => rw [hb] at e; cases e
    | some xs =>
      rw [hb] at e
      obtain ⟨a', vs, h1, h2, z, r⟩ := bx.at_ l xs hb
      rw [ea] at h1; cases h1
      obtain ⟨w, e1, e2⟩ := at_V r e
      exact ix_list value slice pins s σ H _ _ v u Q I rx ry ⟨a, vs, _, w, rfl, rfl, SqL.of h2, e1, q w e2⟩ hs
  · cases e
theorem sl_d : SlR X (rSl X.K) := by
  intro pins s σ H x v vl vu lo hi sl Q I rx hs pl pu h
  obtain ⟨L, β, dx, r, lv, hx, e, put⟩ := h
  unfold slcP at e
  split at e
  · cases e
    obtain ⟨a, vs, ev, sv, z, r⟩ := Rb_lst hx
    subst ev
    exact sl_list pins s σ H _ v vl vu lo hi sl Q I rx hs pl pu ⟨a, vs, rfl, sv, fun p hp => put_lst lv put (cut_V r) (Nat.le_trans (cut_len _ _ _) z) hp⟩
  · rename_i ds
    cases e
    obtain ⟨a, vs, ev, sv, z, r⟩ := Rb_tup hx
    subst ev
    refine sl_tupA pins s σ H _ v vl vu lo hi sl Q I rx hs pl pu ⟨a, vs, rfl, sv, fun hw => ?_, fun _ p hp => put_tup lv put (cut_V r) (Nat.le_trans (cut_len _ _ _) z) hp⟩
    rw [r.length] at hw
    rw [cut_all _ _ _ hw] at put
    refine put_old put ?_
    rcases hx with h | ⟨_, _, _, e, _⟩
    · exact h
    · cases e
  · cases e
/-- a call of what is built in, by values -/
def rBi (K : PySem.W.Frag) (b : Bi) : List V → Hp → VK → Prop := fun vs H Q => ∃ T L β B ds r, Bxs K T L β B H ∧ Rbs K L β H ds vs ∧ biD B b ds = some r ∧ Put K L β H r Q
theorem Rbs1 {K : PySem.W.Frag} {L : Addr → Prop} {β : List Addr} {H : Hp} {d : D} {vs : List V} (h : Rbs K L β H [d] vs) : ∃ v, vs = [v] ∧ Rb K L β H d v := by
  rw [Rbs] at h
  obtain ⟨v, r, e, h1, h2⟩ := h
  rw [Rbs] at h2
  subst h2
  exact ⟨v, e, h1⟩
theorem Rbs2 {K : PySem.W.Frag} {L : Addr → Prop} {β : List Addr} {H : Hp} {d e : D} {vs : List V} (h : Rbs K L β H [d, e] vs) : ∃ v w, vs = [v, w] ∧ Rb K L β H d v ∧ Rb K L β H e w := by
  rw [Rbs] at h
  obtain ⟨v, r, e, h1, h2⟩ := h
  obtain ⟨w, er, h3⟩ := Rbs1 h2
  subst er
  exact ⟨v, w, e, h1, h3⟩
theorem bi_len : CallR X (.builtin "len") (rBi X.K .len) := by
  intro pins s σ H vs us Q I r h
  obtain ⟨T, L, β, B, ds, res, bx, hr, e, put⟩ := h
  replace e : lenD B ds = some res := e
  unfold lenD at e
  split at e
  · obtain ⟨v, ev, hv⟩ := Rbs1 hr
    obtain ⟨a, ws, e1, sv, z, rr⟩ := Rb_lst hv
    subst ev e1
    cases e
    refine call_len_seq pins s σ H _ us Q I r ⟨a, ws, rfl, .inl sv, ?_⟩
    rw [rr.length]
    exact put_int put
  · obtain ⟨v, ev, hv⟩ := Rbs1 hr
    obtain ⟨a, ws, e1, sv, z, rr⟩ := Rb_tup hv
    subst ev e1
    cases e
    refine call_len_seq pins s σ H _ us Q I r ⟨a, ws, rfl, .inr sv, ?_⟩
    rw [rr.length]
    exact put_int put
  · obtain ⟨v, ev, hv⟩ := Rbs1 hr
    have e1 := Rb_str hv
    subst ev e1
    split at e
    · rename_i hl
      cases e
      exact call_len pins s σ H _ us Q I r ⟨_, _, rfl, ⟨by rw [← sl24]; exact hl, rfl⟩, put_int put⟩
    · cases e
  · obtain ⟨v, ev, hv⟩ := Rbs1 hr
    obtain ⟨l, a, el, ea, e1⟩ := Rb_ref hv
    subst ev e1
    rw [el] at e
    simp only at e
    cases hb : B[l]? with
    | none => rw [hb] at e; cases e
    | some xs =>
      rw [hb] at e
      cases e
      obtain ⟨a', ws, h1, h2, z, rr⟩ := bx.at_ l xs hb
      rw [ea] at h1; cases h1
      refine call_len_seq pins s σ H _ us Q I r ⟨a, ws, rfl, .inl (SqL.of h2), ?_⟩
      rw [rr.length]
      exact put_int put
  · cases e
end
end Pv
end
section
set_option linter.all false
set_option maxRecDepth 100000
namespace Pv
open PySem PySem.Spec PySem.SeqAt PyProof.Rows L2 LamX

/-! Pv6: calls of what is built in, by values, the rest -/
section
variable {X : Cx}
theorem bi_int : CallR X (.type "int") (rBi X.K .int) := by
  intro pins s σ H vs us Q I r h
  obtain ⟨T, L, β, B, ds, res, bx, hr, e, put⟩ := h
  replace e : intD ds = some res := e
  unfold intD at e
  split at e
  · obtain ⟨v, ev, hv⟩ := Rbs1 hr
    have e1 := Rb_int hv
    subst ev e1; cases e
    exact call_int1 pins s σ H _ us Q I r (.inl ⟨_, rfl, put_int put⟩)
  · obtain ⟨v, ev, hv⟩ := Rbs1 hr
    have e1 := Rb_bool hv
    subst ev e1; cases e
    exact call_int1 pins s σ H _ us Q I r (.inr ⟨_, rfl, put_int put⟩)
  · cases e
theorem bi_max (hc : X.calm = true) : CallR X (.builtin "max") (rBi X.K .max2) := by
  intro pins s σ H vs us Q I r h
  obtain ⟨T, L, β, B, ds, res, bx, hr, e, put⟩ := h
  replace e : maxD ds = some res := e
  unfold maxD at e
  split at e
  · obtain ⟨v, w, ev, hv, hw⟩ := Rbs2 hr
    have e1 := Rb_int hv
    have e2 := Rb_int hw
    subst ev e1 e2; cases e
    exact call_max2 hc pins s σ H _ us Q I r ⟨_, _, rfl, put_int put⟩
  · cases e
theorem bi_min (hc : X.calm = true) : CallR X (.builtin "min") (rBi X.K .min2) := by
  intro pins s σ H vs us Q I r h
  obtain ⟨T, L, β, B, ds, res, bx, hr, e, put⟩ := h
  replace e : minD ds = some res := e
  unfold minD at e
  split at e
  · obtain ⟨v, w, ev, hv, hw⟩ := Rbs2 hr
    have e1 := Rb_int hv
    have e2 := Rb_int hw
    subst ev e1 e2; cases e
    exact call_min2 hc pins s σ H _ us Q I r ⟨_, _, rfl, put_int put⟩
  · cases e
theorem bi_list : CallR X (.type "list") (rBi X.K .list) := by
  intro pins s σ H vs us Q I r h
  obtain ⟨T, L, β, B, ds, res, bx, hr, e, put⟩ := h
  replace e : listD ds = some res := e
  unfold listD at e
  split at e
  · obtain ⟨v, ev, hv⟩ := Rbs1 hr
    obtain ⟨a, ws, e1, sv, z, rr⟩ := Rb_lst hv
    subst ev e1; cases e
    exact call_list_of pins s σ H _ us Q I r ⟨a, ws, rfl, .inl sv, fun p hp => put_lst bx.live put rr z hp⟩
  · obtain ⟨v, ev, hv⟩ := Rbs1 hr
    obtain ⟨a, ws, e1, sv, z, rr⟩ := Rb_tup hv
    subst ev e1; cases e
    exact call_list_of pins s σ H _ us Q I r ⟨a, ws, rfl, .inr sv, fun p hp => put_lst bx.live put rr z hp⟩
  · cases e
theorem bi_tuple : CallR X (.type "tuple") (rBi X.K .tuple) := by
  intro pins s σ H vs us Q I r h
  obtain ⟨T, L, β, B, ds, res, bx, hr, e, put⟩ := h
  replace e : tupleD ds = some res := e
  unfold tupleD at e
  split at e
  · obtain ⟨v, ev, hv⟩ := Rbs1 hr
    obtain ⟨a, ws, e1, sv, z, rr⟩ := Rb_lst hv
    subst ev e1; cases e
    exact call_tuple_of pins s σ H _ us Q I r ⟨a, ws, rfl, .inl ⟨sv, fun p hp => put_tup bx.live put rr z hp⟩⟩
  · obtain ⟨v, ev, hv⟩ := Rbs1 hr
    obtain ⟨a, ws, e1, sv, z, rr⟩ := Rb_tup hv
    subst ev e1; cases e
    refine call_tuple_of pins s σ H _ us Q I r ⟨a, ws, rfl, .inr ⟨sv, put_old put ?_⟩⟩
    rcases hv with h | ⟨_, _, _, e, _⟩
    · exact h
    · cases e
  · cases e
theorem bi_sum (hc : X.calm = true) : CallR X (.builtin "sum") (rBi X.K .sum) := by
  intro pins s σ H vs us Q I r h
  obtain ⟨T, L, β, B, ds, res, bx, hr, e, put⟩ := h
  replace e : sumD ds = some res := e
  unfold sumD at e
  split at e
  · rename_i xs
    obtain ⟨v, ev, hv⟩ := Rbs1 hr
    obtain ⟨a, ws, e1, sv, z, rr⟩ := Rb_lst hv
    subst ev e1
    cases hi : intsOf xs with
    | none => rw [hi] at e; cases e
    | some ns =>
      rw [hi] at e; cases e
      rw [Rps_ints rr hi] at sv
      exact cr_sum hc pins s σ H _ us Q I r ⟨a, ns, rfl, sv, put_int put⟩
  · cases e
theorem bi_all (hc : X.calm = true) : CallR X (.builtin "all") (rBi X.K .all) := by
  intro pins s σ H vs us Q I r h
  obtain ⟨T, L, β, B, ds, res, bx, hr, e, put⟩ := h
  replace e : allD ds = some res := e
  unfold allD at e
  split at e
  · rename_i xs
    obtain ⟨v, ev, hv⟩ := Rbs1 hr
    obtain ⟨a, ws, e1, sv, z, rr⟩ := Rb_lst hv
    subst ev e1
    cases hi : boolsOf xs with
    | none => rw [hi] at e; cases e
    | some ns =>
      rw [hi] at e; cases e
      rw [Rps_bools rr hi] at sv
      exact cr_all hc pins s σ H _ us Q I r ⟨a, ns, rfl, sv, put_bool put⟩
  · cases e
theorem bi_any (hc : X.calm = true) : CallR X (.builtin "any") (rBi X.K .any) := by
  intro pins s σ H vs us Q I r h
  obtain ⟨T, L, β, B, ds, res, bx, hr, e, put⟩ := h
  replace e : anyD ds = some res := e
  unfold anyD at e
  split at e
  · rename_i xs
    obtain ⟨v, ev, hv⟩ := Rbs1 hr
    obtain ⟨a, ws, e1, sv, z, rr⟩ := Rb_lst hv
    subst ev e1
    cases hi : boolsOf xs with
    | none => rw [hi] at e; cases e
    | some ns =>
      rw [hi] at e; cases e
      rw [Rps_bools rr hi] at sv
      exact cr_any hc pins s σ H _ us Q I r ⟨a, ns, rfl, sv, put_bool put⟩
  · cases e
/-! isinstance -/
def tyN : Ty → String
  | .int => "int"
  | .bool => "bool"
  | .str => "str"
  | .tuple => "tuple"
  | .list => "list"
def rIs (K : PySem.W.Frag) (t : Ty) : List V → Hp → VK → Prop := fun vs H Q => ∃ L β d v b, vs = [v, .ty (tyN t)] ∧ Rb K L β H d v ∧ isTy t d = some b ∧ Q (.bl b) H
theorem bi_isI (t : Ty) : CallR X (.builtin "isinstance") (rIs X.K t) := by
  intro pins s σ H vs us Q I r h
  obtain ⟨L, β, d, v, b, rfl, hv, e, q⟩ := h
  have go : ∀ n b', TyX X.K H v (.type n) → PySem.W.kitOne X.K (.type n) (.type (tyN t)) = some b' → some b' = some b → wpAny (model X.prog X.w) X.A (call (.builtin "isinstance") us) (EP X pins σ Q) X.xe s := fun n b' ty k eb => by
    cases eb
    exact call_isi pins s σ H _ us Q I r ⟨v, _, _, _, _, rfl, .ty _, ty, k, q⟩
  cases d with
  | none =>
    have ev := Rb_none hv; subst ev
    cases t <;> exact go _ false (.base .non) (kit_ty (by decide +kernel)) e
  | bool c =>
    have ev := Rb_bool hv; subst ev
    cases t <;> first
      | exact go _ false (.base (.bl c)) (kit_ty (by decide +kernel)) e
      | exact go _ true (.base (.bl c)) (kit_ty (by decide +kernel)) e
  | int c =>
    have ev := Rb_int hv; subst ev
    cases t <;> first
      | exact go _ false (.base (.int c)) (kit_ty (by decide +kernel)) e
      | exact go _ true (.base (.int c)) (kit_ty (by decide +kernel)) e
  | str c =>
    have ev := Rb_str hv; subst ev
    cases t <;> first
      | exact go _ false (.base (.str c)) (kit_ty (by decide +kernel)) e
      | exact go _ true (.base (.str c)) (kit_ty (by decide +kernel)) e
  | list xs =>
    obtain ⟨a, vs, ev, sv, z, rr⟩ := Rb_lstR hv
    subst ev
    rcases sv with sv | ⟨o, sv⟩
    · cases t <;> first
        | exact go _ false (.base (.lst sv)) (kit_ty (by decide +kernel)) e
        | exact go _ true (.base (.lst sv)) (kit_ty (by decide +kernel)) e
    · cases t <;> first
        | exact go _ false (.base (.frz sv)) (kit_ty (by decide +kernel)) e
        | exact go _ true (.base (.frz sv)) (kit_ty (by decide +kernel)) e
  | tuple xs =>
    obtain ⟨a, vs, ev, sv, z, rr⟩ := Rb_tup hv
    subst ev
    rcases sv with (sv | ⟨o, sv⟩) | ⟨o, its, n, h1, h2, _⟩
    · cases t <;> first
        | exact go _ false (.base (.tup sv)) (kit_ty (by decide +kernel)) e
        | exact go _ true (.base (.tup sv)) (kit_ty (by decide +kernel)) e
    · cases t <;> first
        | exact go _ false (.fTuple sv) (kit_ty (by decide +kernel)) e
        | exact go _ true (.fTuple sv) (kit_ty (by decide +kernel)) e
    · cases t <;> first
        | exact go _ false (.kTuple h1 h2) (kit_ty (by decide +kernel)) e
        | exact go _ true (.kTuple h1 h2) (kit_ty (by decide +kernel)) e
  | dict kvs => cases t <;> cases e
/-! sorted -/
theorem reads_each {h : Heap} : ∀ {ds : List D} {us : List Value} {as : List Addr}, ReadsAll h us ds as → PySem.W.EachIs (fun v b => ∃ as, Reads h v (id b) as) us ds
  | _, _, _, .nil => .nil
  | _, _, _, .cons a b => .cons ⟨_, a⟩ (reads_each b)
theorem each_vals {K : PySem.W.Frag} {L : Addr → Prop} {β : List Addr} {H : Hp} : ∀ {ds : List D} {vs : List V} {us : List Value}, Vals vs us → Rps K L β H ds vs → PySem.W.EachIs (fun u d => ∃ v, RelV v u ∧ Rp K L β H d v) us ds
  | [], vs, us, r, h => by
    rw [Rps] at h; subst h
    cases r
    exact .nil
  | d :: ds, vs, us, r, h => by
    rw [Rps] at h
    obtain ⟨v, q, e, h1, h2⟩ := h
    subst e
    cases r with
    | cons a b => exact .cons ⟨v, a, h1⟩ (each_vals b h2)
theorem vals_each {K : PySem.W.Frag} {L : Addr → Prop} {β : List Addr} {H : Hp} : ∀ {ds : List D} {us : List Value}, PySem.W.EachIs (fun u d => ∃ v, RelV v u ∧ Rp K L β H d v) us ds → ∃ vs, Vals vs us ∧ Rps K L β H ds vs
  | _, _, .nil => ⟨[], .nil, Rps.nil⟩
  | _, _, .cons h t => by
    obtain ⟨v, a, b⟩ := h
    obtain ⟨vs, c, d⟩ := vals_each t
    exact ⟨v :: vs, .cons a c, Rps.cons b d⟩
theorem depth_mem : ∀ {xs : List D} {d : D}, d ∈ xs → d.depth ≤ PyData.depthAll xs
  | x :: xs, d, h => by
    rw [PyData.depthAll]
    rcases List.mem_cons.mp h with h | h
    · subst h; exact Nat.le_max_left _ _
    · exact Nat.le_trans (depth_mem h) (Nat.le_max_right _ _)
theorem bi_sorted (hu : X.A.units + 80 < cLine) : CallR X (.builtin "sorted") (rBi X.K .sorted) := by
  intro pins s σ H vs us Q I r h
  obtain ⟨T, L, β, B, ds, res, bx, hr, e, put⟩ := h
  replace e : sortedD ds = some res := e
  unfold sortedD at e
  split at e
  · rename_i xs
    split at e
    · rename_i hc
      simp only [Bool.and_eq_true, decide_eq_true_eq] at hc
      obtain ⟨⟨⟨hal, hso⟩, hde⟩, hpl⟩ := hc
      cases e
      obtain ⟨v, ev, hv⟩ := Rbs1 hr
      have p2 : (PyData.list xs).plain = true := by rw [PyData.plain]; exact hpl
      obtain ⟨a, ws, e1, sv, z, rr⟩ := Rb_lst hv
      subst ev e1
      obtain ⟨its, rv, hl, hz⟩ := I.list sv
      obtain ⟨as, rd⟩ := Dp.readsAll I xs ws its (Rps_dp xs ws hpl rr) rv
      rw [Vals.ref1 r]
      have l1 := rr.length
      have l2 := rv.length
      have hal' : PySem.W.AllAlike (xs.map id) := by
        rw [List.map_id]
        intro d hd d' hd'
        unfold allAlike at hal
        exact List.all_eq_true.mp (List.all_eq_true.mp hal d hd) d' hd'
      have hk : PySem.W.Sortable (xs.map id) := by
        rw [List.map_id]
        unfold sortable at hso
        rcases Bool.or_eq_true_iff.mp hso with q | q
        · refine .inl fun d hd => ?_
          have := List.all_eq_true.mp q d hd
          cases d with
          | tuple ys =>
            cases ys with
            | nil => cases this
            | cons y ys => exact ⟨y, ys, rfl⟩
          | _ => cases this
        · refine .inr fun d hd => ?_
          have := List.all_eq_true.mp q d hd
          cases d with
          | none => cases this
          | tuple ys => cases this
          | _ => exact ⟨fun z => (nomatch z), fun ys z => (nomatch z)⟩
      refine PySem.W.sorted_data (enc := id) (bs := xs) hl.isList (each_vals rv rr) (reads_each rd) hal' hk z (fun b hb => ?_) fun out h1 h2 => ?_
      · have := depth_mem hb
        show X.A.units + 2 + b.depth < cLine
        omega
      · obtain ⟨os, o1, o2⟩ := vals_each h2
        obtain ⟨ep, he'⟩ := PyProof.Rows.sortedAll_at s.heap its out.toArray
        have ol : os.length ≤ sizeLine := by rw [o1.length, h1]; exact z
        refine ⟨.ref _, upd H (s.heap.objs.size + 1) (.lst os), I.laid (t' := s.toks) (fun _ _ => PyProof.Rows.sortedAll_old) (Nat.le_succ _) ⟨ol, out, ep, o1, he'⟩, rfl, ?_⟩
        exact put_lst bx.live put o2 (by rw [← o2.length]; exact ol) (I.hok.fresh (Nat.le_succ _))
    · cases e
  · cases e
end
end Pv
end
section
set_option linter.all false
set_option maxRecDepth 100000
namespace Pv
open PySem PySem.Spec PySem.SeqAt PyProof.Rows L2 LamX

/-! Pv7: expressions: what their readings mean -/
section
variable (K : PySem.W.Frag) (T : List (Addr × Str)) (ca : Nat → Option Addr) (W : WX)
/-- the slots, the boxes stand for ρ, B -/
structure Se (L : Addr → Prop) (β : List Addr) (ρ : List Sl) (B : Bx) (σ : L2.St) (H : Hp) : Prop where
  bx : Bxs K T L β B H
  len : ρ.length = σ.length
  vl : ∀ (i : Nat) d, ρ[i]? = some (.vl d) → ∃ v, σ[i]? = some (some v) ∧ Rp K L β H d v
  ow : ∀ (i : Nat) xs, ρ[i]? = some (.ow xs) → ∃ a vs, σ[i]? = some (some (.ref a)) ∧ L a ∧ H a = some (.lst vs) ∧ xs.length ≤ sizeLine ∧ Rps K L β H xs vs
/-- what is wanted where an error is raised -/
def ExW (L : Addr → Prop) (β : List Addr) (H : Hp) (σ : L2.St) (c : Nat) (w : D) (B' : Bx) : Prop :=
  ∀ a d vw β' H', ca c = some a → Mv β H β' H' → Bxs K T L β' B' H' → H' d = some (.xd [(("what" : Str), vw)]) → Rp K L β' H' w vw → W (.ref a) (some d) σ H'
def Ok {α : Type} (L : Addr → Prop) (β : List Addr) (H : Hp) (σ : L2.St) (o : Out α) (P : α → Bx → Prop) : Prop := match o with
  | .ok a B => P a B
  | .ex c w B => ExW K T ca W L β H σ c w B
  | .bad => False
/-- a value has come -/
def Va (L : Addr → Prop) (β : List Addr) (H : Hp) (m : Bool) (Q : VK) (r : R) (B' : Bx) : Prop :=
  ∀ v β' H', Mv β H β' H' → Bxs K T L β' B' H' → Rb K L β' H' r.1 v → (m = true → Rp K L β' H' r.1 v) → (r.2 = true → Fr K L β' H H' r.1 v) → Q v H'
variable (C : Cl)
def tEv (e : E) (m : Bool) : TE := fun σ H Q => ∃ L β ρ B, Se K T L β ρ B σ H ∧ Ok K T ca W L β H σ (ev C e m ρ B) (Va K T L β H m Q)
def tEt (e : E) : TT := fun σ H Q => ∃ L β ρ B, Se K T L β ρ B σ H ∧ Ok K T ca W L β H σ (ev C e false ρ B) fun r B' => ∃ b, truth r.1 = some b ∧ ∀ β' H', Mv β H β' H' → Bxs K T L β' B' H' → Q b H'
def Vas (L : Addr → Prop) (β : List Addr) (H : Hp) (m : Bool) (Q : List V → Hp → Prop) (r : R) (B' : Bx) : Prop :=
  ∃ ds, r.1 = .list ds ∧ ∀ vs β' H', Mv β H β' H' → Bxs K T L β' B' H' → Rbs K L β' H' ds vs → (m = true → Rps K L β' H' ds vs) → Q vs H'
def tEa (e : E) (m : Bool) : TA := fun σ H Q => ∃ L β ρ B, Se K T L β ρ B σ H ∧ Ok K T ca W L β H σ (ev C e m ρ B) (Vas K T L β H m Q)
end
section
variable {K : PySem.W.Frag} {T : List (Addr × Str)} {ca : Nat → Option Addr} {W : WX} {C : Cl} {L : Addr → Prop} {β β' β'' : List Addr} {ρ : List Sl} {B B' B'' : Bx} {σ : L2.St} {H H' H'' : Hp} {α γ : Type}
theorem Se.mv (S : Se K T L β ρ B σ H) (m : Mv β H β' H') (b : Bxs K T L β' B' H') : Se K T L β' ρ B' σ H' := by
  refine ⟨b, S.len, fun i d e => ?_, fun i xs e => ?_⟩
  · obtain ⟨v, h1, h2⟩ := S.vl i d e
    exact ⟨v, h1, h2.mv m⟩
  · obtain ⟨a, vs, h1, h2, h3, h4, h5⟩ := S.ow i xs e
    exact ⟨a, vs, h1, h2, m.keep a _ (S.bx.lk a h2).2 h3 lst_tbl, h4, h5.mv m⟩
theorem ExW.mv {c : Nat} {w : D} (h : ExW K T ca W L β H σ c w B') (m : Mv β H β' H') : ExW K T ca W L β' H' σ c w B' := fun a d vw β2 H2 e m2 => h a d vw β2 H2 e (m.trans m2)
theorem Ok.bind {o : Out α} {f : α → Bx → Out γ} {P : γ → Bx → Prop} (h : Ok K T ca W L β H σ (o.bind f) P) : Ok K T ca W L β H σ o fun a B => Ok K T ca W L β H σ (f a B) P := by
  cases o <;> exact h
theorem Ok.imp {o : Out α} {P P' : α → Bx → Prop} (h : Ok K T ca W L β H σ o P) (i : ∀ a B, o = .ok a B → P a B → P' a B) : Ok K T ca W L β H σ o P' := by
  cases o with
  | ok a B => exact i a B rfl h
  | ex c w B => exact h
  | bad => exact h
theorem Ok.mv {o : Out α} {P : α → Bx → Prop} (h : Ok K T ca W L β H σ o P) (m : Mv β H β' H') : Ok K T ca W L β' H' σ o P := by
  cases o with
  | ok a B => exact h
  | ex c w B => exact ExW.mv h m
  | bad => exact h
theorem Ok.opt {o : Option α} {P : α → Bx → Prop} (h : Ok K T ca W L β H σ (Out.opt o B) P) : ∃ a, o = some a ∧ P a B := by
  cases o with
  | none => exact h.elim
  | some a => exact ⟨a, rfl, h⟩
theorem Fr.mono {d : D} {v : V} (f : Fr K L β H' H'' d v) (m : Mv β' H β'' H') : Fr K L β H H'' d v := by
  obtain ⟨xs, a, vs, h1, h2, h3, r⟩ := f
  exact ⟨xs, a, vs, h1, h2, m.none h3, r⟩
theorem Va.mv {m : Bool} {Q : VK} {r : R} (h : Va K T L β H m Q r B) (mv : Mv β H β' H') : Va K T L β' H' m Q r B := fun v β2 H2 m2 b2 rb rp fr => h v β2 H2 (mv.trans m2) b2 rb rp fun z => (fr z).mono mv
/-- what a tEv hands on -/
theorem tEv_of {e : E} {m : Bool} {Q : VK} (S : Se K T L β ρ B σ H) (h : Ok K T ca W L β H σ (ev C e m ρ B) (Va K T L β H m Q)) : tEv K T ca W C e m σ H Q := ⟨L, β, ρ, B, S, h⟩
theorem same_bxs (h : ∀ b o, H b = some o → H' b = some o) (b : Bxs K T L β B H) : Bxs K T L β B H' :=
  ⟨b.len, b.nd, fun a z => by obtain ⟨⟨o, e⟩, n⟩ := b.lk a z; exact ⟨⟨o, h _ _ e⟩, n⟩, fun l xs e => by
    obtain ⟨a, vs, h1, h2, h3, h4⟩ := b.at_ l xs e
    exact ⟨a, vs, h1, h _ _ h2, h3, h4.mv (Mv.of h)⟩, b.tabs.ext h⟩
theorem Va.put {m : Bool} {Q : VK} {r : R} (b : Bxs K T L β B H) (h : Va K T L β H m Q r B) : Put K L β H r Q := fun v H' hs rp fr => h v β H' (Mv.of hs) (same_bxs hs b) (.inl rp) (fun _ => rp) fr
theorem Va.old {m : Bool} {Q : VK} {d : D} {v : V} (b : Bxs K T L β B H) (h : Va K T L β H m Q (d, false) B) (rb : Rb K L β H d v) (rp : m = true → Rp K L β H d v) : Q v H := h v β H (Mv.refl _ _) b rb rp fun z => nomatch z
/-- the wider wish -/
theorem pe_imp {X : Cx} {e : Expr} {t t' : TE} (h : PE X e t) (i : ∀ σ H Q, t' σ H Q → t σ H Q) : PE X e t' := ⟨fun pins s σ H Q I q => h.run pins s σ H Q I (i σ H Q q)⟩
theorem pt_imp {X : Cx} {e : Expr} {t t' : TT} (h : PT X e t) (i : ∀ σ H Q, t' σ H Q → t σ H Q) : PT X e t' := ⟨fun pins s σ H Q I q => h.run pins s σ H Q I (i σ H Q q)⟩
theorem pw_imp {X : Cx} {e : Expr} {t t' : TT} (h : PW X e t) (i : ∀ σ H Q, t' σ H Q → t σ H Q) : PW X e t' := ⟨fun wh pins s σ H Q I q => h.run wh pins s σ H Q I (i σ H Q q)⟩
theorem pa_imp {X : Cx} {e : List Expr} {t t' : TA} (h : PA X e t) (i : ∀ σ H Q, t' σ H Q → t σ H Q) : PA X e t' := ⟨fun pos pins s σ H Q I q => h.run pos pins s σ H Q I (i σ H Q q)⟩
/-- a value, then what follows -/
theorem step1 {e : E} {m : Bool} {Q : VK} {P : R → Bx → Prop} (S : Se K T L β ρ B σ H) (h : Ok K T ca W L β H σ (ev C e m ρ B) P)
    (k : ∀ r B1 v β1 H1, P r B1 → Mv β H β1 H1 → Se K T L β1 ρ B1 σ H1 → Rb K L β1 H1 r.1 v → (m = true → Rp K L β1 H1 r.1 v) → (r.2 = true → Fr K L β1 H H1 r.1 v) → Q v H1) : tEv K T ca W C e m σ H Q :=
  ⟨L, β, ρ, B, S, h.imp fun r B1 _ p v β1 H1 m1 b1 rb rp fr => k r B1 v β1 H1 p m1 (S.mv m1 b1) rb rp fr⟩
theorem step1t {e : E} {Q : Bool → Hp → Prop} {P : R → Bx → Prop} (S : Se K T L β ρ B σ H) (h : Ok K T ca W L β H σ (ev C e false ρ B) P)
    (ht : ∀ r B1, P r B1 → ∃ b, truth r.1 = some b)
    (k : ∀ r B1 b β1 H1, P r B1 → truth r.1 = some b → Mv β H β1 H1 → Se K T L β1 ρ B1 σ H1 → Q b H1) : tEt K T ca W C e σ H Q :=
  ⟨L, β, ρ, B, S, h.imp fun r B1 _ p => by
    obtain ⟨b, hb⟩ := ht r B1 p
    exact ⟨b, hb, fun β1 H1 m1 b1 => k r B1 b β1 H1 p hb m1 (S.mv m1 b1)⟩⟩
theorem step1a {e : E} {m : Bool} {Q : List V → Hp → Prop} {P : R → Bx → Prop} (S : Se K T L β ρ B σ H) (h : Ok K T ca W L β H σ (ev C e m ρ B) P)
    (ht : ∀ r B1, P r B1 → ∃ ds, r.1 = .list ds)
    (k : ∀ r B1 ds vs β1 H1, P r B1 → r.1 = .list ds → Mv β H β1 H1 → Se K T L β1 ρ B1 σ H1 → Rbs K L β1 H1 ds vs → (m = true → Rps K L β1 H1 ds vs) → Q vs H1) : tEa K T ca W C e m σ H Q :=
  ⟨L, β, ρ, B, S, h.imp fun r B1 _ p => by
    obtain ⟨ds, hd⟩ := ht r B1 p
    exact ⟨ds, hd, fun vs β1 H1 m1 b1 rb rp => k r B1 ds vs β1 H1 p hd m1 (S.mv m1 b1) rb rp⟩⟩
end

/-! ### each construct -/
section
variable {X : Cx} {T : List (Addr × Str)} {ca : Nat → Option Addr} {W : WX} {C : Cl} {a b c : E} {x y z : Expr} {m : Bool} {pos : Pos}
theorem e_v {i : Nat} {n : Str} (hN : X.N[i]? = some n) (hv : Vis X.env.scope n) (hd : (n == ("__debug__" : Str)) = false) (hcd : (n == ("__classdict__" : Str)) = false) : PE X (.Name n pos) (tEv X.K T ca W C (.v i) m) := by
  refine pe_imp (pe_var hN hv hd hcd) fun σ H Q ⟨L, β, ρ, B, S, h⟩ => ?_
  simp only [ev] at h
  split at h
  · rename_i d e
    obtain ⟨v, h1, h2⟩ := S.vl i d e
    exact ⟨v, h1, Va.old S.bx h (.inl h2) fun _ => h2⟩
  · rename_i xs e
    obtain ⟨ad, vs, h1, h2, h3, h4, h5⟩ := S.ow i xs e
    cases m with
    | true => exact h.elim
    | false => exact ⟨_, h1, Va.old S.bx h (.inr ⟨xs, ad, vs, rfl, rfl, (S.bx.lk ad h2).2, h3, h4, h5⟩) fun z => nomatch z⟩
  · exact h.elim
theorem e_int {i : Int} {j} : PE X (.Constant (.int i) j pos) (tEv X.K T ca W C (.k (.int i)) m) := pe_imp pe_int fun σ H Q ⟨L, β, ρ, B, S, h⟩ => put_int (Va.put S.bx h)
theorem e_bool {i : Bool} {j} : PE X (.Constant (.bool i) j pos) (tEv X.K T ca W C (.k (.bool i)) m) := pe_imp pe_bl fun σ H Q ⟨L, β, ρ, B, S, h⟩ => put_bool (Va.put S.bx h)
theorem e_str {i : Str} {j} : PE X (.Constant (.str i) j pos) (tEv X.K T ca W C (.k (.str i)) m) := pe_imp pe_str fun σ H Q ⟨L, β, ρ, B, S, h⟩ => put_str (Va.put S.bx h)
theorem e_none {j} : PE X (.Constant .none j pos) (tEv X.K T ca W C (.k .none) m) := pe_imp pe_non fun σ H Q ⟨L, β, ρ, B, S, h⟩ => put_old (Va.put S.bx h) (by rw [Rp])
theorem e_g {n : Str} {d : D} {v : V} {u : Value} (hg : Gl X n) (hm : X.mg n = some u) (r : RelV v u) (hd : (n == ("__debug__" : Str)) = false) (hr : ∀ L β H, Rp X.K L β H d v) : PE X (.Name n pos) (tEv X.K T ca W C (.g n d) m) :=
  pe_imp (pe_glob hg hm r hd) fun σ H Q ⟨L, β, ρ, B, S, h⟩ => put_old (Va.put S.bx h) (hr _ _ _)
theorem e_bin {o : Operator} (ha : PE X x (tEv X.K T ca W C a false)) (hb : PE X y (tEv X.K T ca W C b false)) : PE X (.BinOp x o y pos) (tEv X.K T ca W C (.bin o a b) m) := by
  refine pe_imp (pe_op (op_bin o) ha hb) fun σ H Q ⟨L, β, ρ, B, S, h⟩ => ?_
  refine step1 S h.bind fun r B1 v β1 H1 p m1 S1 rb _ _ => step1 S1 (p.bind.mv m1) fun r2 B2 v2 β2 H2 p2 m2 S2 rb2 _ _ => ?_
  obtain ⟨r3, e3, p3⟩ := p2.opt
  exact ⟨L, β2, r.1, r2.1, r3, S2.bx.live, rb.mv m2, rb2, e3, Va.put S2.bx (p3.mv (m1.trans m2))⟩
theorem e_cmp {o : CmpOp} (hu : X.A.units + 80 < cLine) (hm : behindInMarks o y = false) (ha : PE X x (tEv X.K T ca W C a false)) (hb : PE X y (tEv X.K T ca W C b false)) : PE X (.Compare x [o] [y] pos) (tEv X.K T ca W C (.cmp o a b) m) := by
  refine pe_imp (pe_cmpR (op_cmp hu o) ha hb hm) fun σ H Q ⟨L, β, ρ, B, S, h⟩ => ?_
  refine step1 S h.bind fun r B1 v β1 H1 p m1 S1 rb _ _ => step1 S1 (p.bind.mv m1) fun r2 B2 v2 β2 H2 p2 m2 S2 rb2 _ _ => ?_
  obtain ⟨r3, e3, p3⟩ := p2.opt
  cases hc : cmpD o r.1 r2.1 with
  | none => rw [hc] at e3; cases e3
  | some k =>
    rw [hc] at e3; cases e3
    exact ⟨L, β2, r.1, r2.1, k, rb.mv m2, rb2, hc, put_bool (Va.put S2.bx (p3.mv (m1.trans m2)))⟩
theorem t_cmp {o : CmpOp} (hu : X.A.units + 80 < cLine) (hm : behindInMarks o y = false) (ha : PE X x (tEv X.K T ca W C a false)) (hb : PE X y (tEv X.K T ca W C b false)) : PT X (.Compare x [o] [y] pos) (tEt X.K T ca W C (.cmp o a b)) := by
  refine pt_imp (pt_cmpR (op_cmp hu o) ha hb hm) fun σ H Q ⟨L, β, ρ, B, S, h⟩ => ?_
  refine step1 S h.bind fun r B1 v β1 H1 p m1 S1 rb _ _ => step1 S1 (p.bind.mv m1) fun r2 B2 v2 β2 H2 p2 m2 S2 rb2 _ _ => ?_
  obtain ⟨r3, e3, k', hk, p3⟩ := p2.opt
  cases hc : cmpD o r.1 r2.1 with
  | none => rw [hc] at e3; cases e3
  | some k =>
    rw [hc] at e3; cases e3
    cases hk
    exact ⟨L, β2, r.1, r2.1, _, rb.mv m2, rb2, hc, _, rfl, p3 β2 H2 (m1.trans m2) S2.bx⟩

/-! forms of expressions -/
def noStar : Expr → Bool
  | .Starred _ _ => false
  | _ => true
def noSlice : Expr → Bool
  | .Slice .. => false
  | _ => true
def plainTest : Expr → Bool
  | .UnaryOp .Not _ _ => false
  | .BoolOp .. => false
  | .IfExp .. => false
  | .Compare .. => false
  | _ => true
theorem star_of {e : Expr} {es : List Expr} {env : Env} (h : noStar e = true) : starEach (e :: es) env = (false, eval e env) :: starEach es env := by
  cases e <;> first | rfl | cases h
theorem ix_of {e : Expr} (h : noSlice e = true) : PlainIx e := by
  intro o i
  cases e <;> first | rfl | cases h
theorem test_of {e : Expr} {env : Env} (h : plainTest e = true) : ∀ whole, isTrue e env whole = (do let v ← whole; standAt e.pos; holding [v] (truthy v)) := by
  intro w
  cases e with
  | UnaryOp o _ _ => cases o <;> first | rfl | cases h
  | _ => first | rfl | cases h
theorem t_plain (h : plainTest x = true) (ha : PE X x (tEv X.K T ca W C a false)) : PT X x (tEt X.K T ca W C a) := by
  refine pt_imp (pt_truth ha (test_of h)) fun σ H Q ⟨L, β, ρ, B, S, h⟩ => ?_
  refine step1 S h fun r B1 v β1 H1 p m1 S1 rb _ _ => ?_
  obtain ⟨k, hk, p⟩ := p
  exact ⟨k, truV rb hk, p β1 H1 m1 S1.bx⟩
theorem Ok.va {L : Addr → Prop} {β β' : List Addr} {H H' : Hp} {σ : L2.St} {Q : VK} {o : Out R} (h : Ok X.K T ca W L β H σ o (Va X.K T L β H m Q)) (mv : Mv β H β' H') : Ok X.K T ca W L β' H' σ o (Va X.K T L β' H' m Q) :=
  (h.mv mv).imp fun _ _ _ p => p.mv mv
theorem e_neg (ha : PE X x (tEv X.K T ca W C a false)) : PE X (.UnaryOp .USub x pos) (tEv X.K T ca W C (.neg a) m) := by
  refine pe_imp (pe_un un_neg ha) fun σ H Q ⟨L, β, ρ, B, S, h⟩ => ?_
  refine step1 S h.bind fun r B1 v β1 H1 p m1 S1 rb _ _ => ?_
  obtain ⟨r3, e3, p3⟩ := p.opt
  cases hr : r.1 with
  | int i =>
    rw [hr] at e3 rb
    cases e3
    exact ⟨i, Rb_int rb, put_int (Va.put S1.bx (p3.mv m1))⟩
  | _ => rw [hr] at e3; cases e3
theorem e_not (ha : PE X x (tEv X.K T ca W C a false)) : PE X (.UnaryOp .Not x pos) (tEv X.K T ca W C (.not a) m) := by
  refine pe_imp (pe_notT ha) fun σ H Q ⟨L, β, ρ, B, S, h⟩ => ?_
  refine step1 S h.bind fun r B1 v β1 H1 p m1 S1 rb _ _ => ?_
  obtain ⟨r3, e3, p3⟩ := p.opt
  cases hr : truth r.1 with
  | none => rw [hr] at e3; cases e3
  | some k =>
    rw [hr] at e3; cases e3
    exact ⟨k, truV rb hr, put_bool (Va.put S1.bx (p3.mv m1))⟩
theorem t_not (ha : PT X x (tEt X.K T ca W C a)) : PT X (.UnaryOp .Not x pos) (tEt X.K T ca W C (.not a)) := by
  refine pt_imp (pt_not ha) fun σ H Q ⟨L, β, ρ, B, S, h⟩ => ?_
  refine step1t S h.bind (fun r B1 p => ?_) fun r B1 k β1 H1 p hk m1 S1 => ?_
  · obtain ⟨r3, e3, p3⟩ := p.opt
    cases hr : truth r.1 with
    | none => rw [hr] at e3; cases e3
    | some k => exact ⟨k, rfl⟩
  · obtain ⟨r3, e3, k', hk', p3⟩ := p.opt
    rw [hk] at e3; cases e3
    cases hk'
    exact p3 β1 H1 m1 S1.bx
theorem e_cmp2 {o q : CmpOp} (hu : X.A.units + 80 < cLine) (hm : lastMarks [o, q] [y, z] = false) (ha : PE X x (tEv X.K T ca W C a false)) (hb : PE X y (tEv X.K T ca W C b false)) (hc : PE X z (tEv X.K T ca W C c false)) : PE X (.Compare x [o, q] [y, z] pos) (tEv X.K T ca W C (.cmp2 o q a b c) m) := by
  refine pe_imp (pe_chain (op_cmp hu o) (op_cmp hu q) ha hb hc hm) fun σ H Q ⟨L, β, ρ, B, S, h⟩ => ?_
  refine step1 S h.bind fun r B1 v β1 H1 p m1 S1 rb _ _ => step1 S1 (p.bind.mv m1) fun r2 B2 v2 β2 H2 p2 m2 S2 rb2 _ _ => ?_
  cases hc : cmpD o r.1 r2.1 with
  | none => rw [hc] at p2; exact p2.elim
  | some k =>
    rw [hc] at p2
    refine ⟨L, β2, r.1, r2.1, k, rb.mv m2, rb2, hc, k, rfl, ?_⟩
    cases k with
    | true =>
      rw [if_pos rfl]
      refine step1 S2 (p2.bind.mv (m1.trans m2)) fun r3 B3 v3 β3 H3 p3 m3 S3 rb3 _ _ => ?_
      obtain ⟨r4, e4, p4⟩ := p3.opt
      cases hc2 : cmpD q r2.1 r3.1 with
      | none => rw [hc2] at e4; cases e4
      | some k2 =>
        rw [hc2] at e4; cases e4
        exact ⟨L, β3, r2.1, r3.1, k2, rb2.mv m3, rb3, hc2, put_bool (Va.put S3.bx (p4.mv ((m1.trans m2).trans m3)))⟩
    | false =>
      rw [if_neg Bool.false_ne_true]
      have p3 : Va X.K T L β H m Q (.bool false, false) B2 := p2
      exact put_bool (Va.put S2.bx (p3.mv (m1.trans m2)))
theorem t_cmp2 {o q : CmpOp} (hu : X.A.units + 80 < cLine) (hm : lastMarks [o, q] [y, z] = false) (ha : PE X x (tEv X.K T ca W C a false)) (hb : PE X y (tEv X.K T ca W C b false)) (hc : PE X z (tEv X.K T ca W C c false)) : PT X (.Compare x [o, q] [y, z] pos) (tEt X.K T ca W C (.cmp2 o q a b c)) := by
  refine pt_imp (pt_chain (op_cmp hu o) (op_cmp hu q) ha hb hc hm) fun σ H Q ⟨L, β, ρ, B, S, h⟩ => ?_
  refine step1 S h.bind fun r B1 v β1 H1 p m1 S1 rb _ _ => step1 S1 (p.bind.mv m1) fun r2 B2 v2 β2 H2 p2 m2 S2 rb2 _ _ => ?_
  cases hc : cmpD o r.1 r2.1 with
  | none => rw [hc] at p2; exact p2.elim
  | some k =>
    rw [hc] at p2
    refine ⟨L, β2, r.1, r2.1, k, rb.mv m2, rb2, hc, k, rfl, ?_⟩
    cases k with
    | true =>
      rw [if_pos rfl]
      refine step1 S2 (p2.bind.mv (m1.trans m2)) fun r3 B3 v3 β3 H3 p3 m3 S3 rb3 _ _ => ?_
      obtain ⟨r4, e4, k4, hk4, p4⟩ := p3.opt
      cases hc2 : cmpD q r2.1 r3.1 with
      | none => rw [hc2] at e4; cases e4
      | some k2 =>
        rw [hc2] at e4; cases e4
        cases hk4
        exact ⟨L, β3, r2.1, r3.1, _, rb2.mv m3, rb3, hc2, _, rfl, p4 β3 H3 ((m1.trans m2).trans m3) S3.bx⟩
    | false =>
      rw [if_neg Bool.false_ne_true]
      obtain ⟨k4, hk4, p4⟩ : ∃ b, truth (.bool false) = some b ∧ ∀ β' H', Mv β H β' H' → Bxs X.K T L β' B2 H' → Q b H' := p2
      cases hk4
      exact ⟨false, rfl, p4 β2 H2 (m1.trans m2) S2.bx⟩
theorem e_and {rest : List Expr} {p1 : Pos} (ha : PE X x (tEv X.K T ca W C a m)) (hb : PE X (.BoolOp .And (y :: rest) pos) (tEv X.K T ca W C b m)) : PE X (.BoolOp .And (x :: y :: rest) pos) (tEv X.K T ca W C (.and a b) m) := by
  refine pe_imp (pe_andT ha hb) fun σ H Q ⟨L, β, ρ, B, S, h⟩ => ?_
  refine step1 S h.bind fun r B1 v β1 H1 p m1 S1 rb rp _ => ?_
  cases ht : truth r.1 with
  | none => rw [ht] at p; exact p.elim
  | some k =>
    rw [ht] at p
    refine ⟨k, truV rb ht, ?_⟩
    cases k with
    | true => rw [if_pos rfl]; exact ⟨L, β1, ρ, B1, S1, Ok.va p m1⟩
    | false =>
      rw [if_neg Bool.false_ne_true]
      have p3 : Va X.K T L β H m Q (r.1, false) B1 := p
      exact Va.old S1.bx (p3.mv m1) rb rp
theorem e_or {rest : List Expr} {p1 : Pos} (ha : PE X x (tEv X.K T ca W C a m)) (hb : PE X (.BoolOp .Or (y :: rest) pos) (tEv X.K T ca W C b m)) : PE X (.BoolOp .Or (x :: y :: rest) pos) (tEv X.K T ca W C (.or a b) m) := by
  refine pe_imp (pe_orT ha hb) fun σ H Q ⟨L, β, ρ, B, S, h⟩ => ?_
  refine step1 S h.bind fun r B1 v β1 H1 p m1 S1 rb rp _ => ?_
  cases ht : truth r.1 with
  | none => rw [ht] at p; exact p.elim
  | some k =>
    rw [ht] at p
    refine ⟨k, truV rb ht, ?_⟩
    cases k with
    | false => rw [if_neg Bool.false_ne_true]; exact ⟨L, β1, ρ, B1, S1, Ok.va p m1⟩
    | true =>
      rw [if_pos rfl]
      have p3 : Va X.K T L β H m Q (r.1, false) B1 := p
      exact Va.old S1.bx (p3.mv m1) rb rp
theorem w_and {rest : List Expr} (ha : PT X x (tEt X.K T ca W C a)) (hb : PW X (.BoolOp .And (y :: rest) pos) (tEt X.K T ca W C b)) : PW X (.BoolOp .And (x :: y :: rest) pos) (tEt X.K T ca W C (.and a b)) := by
  refine pw_imp (pw_and ha hb) fun σ H Q ⟨L, β, ρ, B, S, h⟩ => ?_
  refine step1t S h.bind (fun r B1 p => ?_) fun r B1 k β1 H1 p hk m1 S1 => ?_
  · cases ht : truth r.1 with
    | none => rw [ht] at p; exact p.elim
    | some k => exact ⟨k, rfl⟩
  · rw [hk] at p
    cases k with
    | true => rw [if_pos rfl]; exact ⟨L, β1, ρ, B1, S1, (p.mv m1).imp fun r2 B2 _ ⟨b2, h2, q2⟩ => ⟨b2, h2, fun β' H' mm bb => q2 β' H' (m1.trans mm) bb⟩⟩
    | false =>
      rw [if_neg Bool.false_ne_true]
      obtain ⟨b2, h2, q2⟩ : ∃ b, truth r.1 = some b ∧ ∀ β' H', Mv β H β' H' → Bxs X.K T L β' B1 H' → Q b H' := p
      rw [hk] at h2; cases h2
      exact q2 β1 H1 m1 S1.bx
theorem w_or {rest : List Expr} (ha : PT X x (tEt X.K T ca W C a)) (hb : PW X (.BoolOp .Or (y :: rest) pos) (tEt X.K T ca W C b)) : PW X (.BoolOp .Or (x :: y :: rest) pos) (tEt X.K T ca W C (.or a b)) := by
  refine pw_imp (pw_or ha hb) fun σ H Q ⟨L, β, ρ, B, S, h⟩ => ?_
  refine step1t S h.bind (fun r B1 p => ?_) fun r B1 k β1 H1 p hk m1 S1 => ?_
  · cases ht : truth r.1 with
    | none => rw [ht] at p; exact p.elim
    | some k => exact ⟨k, rfl⟩
  · rw [hk] at p
    cases k with
    | false => rw [if_neg Bool.false_ne_true]; exact ⟨L, β1, ρ, B1, S1, (p.mv m1).imp fun r2 B2 _ ⟨b2, h2, q2⟩ => ⟨b2, h2, fun β' H' mm bb => q2 β' H' (m1.trans mm) bb⟩⟩
    | true =>
      rw [if_pos rfl]
      obtain ⟨b2, h2, q2⟩ : ∃ b, truth r.1 = some b ∧ ∀ β' H', Mv β H β' H' → Bxs X.K T L β' B1 H' → Q b H' := p
      rw [hk] at h2; cases h2
      exact q2 β1 H1 m1 S1.bx
theorem e_ite (hc : PT X z (tEt X.K T ca W C c)) (ha : PE X x (tEv X.K T ca W C a m)) (hb : PE X y (tEv X.K T ca W C b m)) : PE X (.IfExp z x y pos) (tEv X.K T ca W C (.ite c a b) m) := by
  refine pe_imp (pe_ifExp hc ha hb) fun σ H Q ⟨L, β, ρ, B, S, h⟩ => ?_
  refine step1t S h.bind (fun r B1 p => ?_) fun r B1 k β1 H1 p hk m1 S1 => ?_
  · cases ht : truth r.1 with
    | none => rw [ht] at p; exact p.elim
    | some k => exact ⟨k, rfl⟩
  · rw [hk] at p
    cases k with
    | true => rw [if_pos rfl]; exact ⟨L, β1, ρ, B1, S1, Ok.va p m1⟩
    | false => rw [if_neg Bool.false_ne_true]; exact ⟨L, β1, ρ, B1, S1, Ok.va p m1⟩
theorem t_ite (hc : PT X z (tEt X.K T ca W C c)) (ha : PT X x (tEt X.K T ca W C a)) (hb : PT X y (tEt X.K T ca W C b)) : PT X (.IfExp z x y pos) (tEt X.K T ca W C (.ite c a b)) := by
  refine ⟨fun pins s σ H Q I ⟨L, β, ρ, B, S, h⟩ => ?_⟩
  refine wpAny_bind (thn (hc.run pins s σ H (fun k H1 => if k = true then tEt X.K T ca W C a σ H1 Q else tEt X.K T ca W C b σ H1 Q) I ?_) fun k s1 ⟨H1, I1, q1⟩ => ?_)
  · refine step1t S h.bind (fun r B1 p => ?_) fun r B1 k β1 H1 p hk m1 S1 => ?_
    · cases ht : truth r.1 with
      | none => rw [ht] at p; exact p.elim
      | some k => exact ⟨k, rfl⟩
    · rw [hk] at p
      cases k with
      | true => rw [if_pos rfl]; exact ⟨L, β1, ρ, B1, S1, (p.mv m1).imp fun r2 B2 _ ⟨b2, h2, q2⟩ => ⟨b2, h2, fun β' H' mm bb => q2 β' H' (m1.trans mm) bb⟩⟩
      | false => rw [if_neg Bool.false_ne_true]; exact ⟨L, β1, ρ, B1, S1, (p.mv m1).imp fun r2 B2 _ ⟨b2, h2, q2⟩ => ⟨b2, h2, fun β' H' mm bb => q2 β' H' (m1.trans mm) bb⟩⟩
  · cases k with
    | true => exact ha.run pins s1 σ H1 Q I1 q1
    | false => exact hb.run pins s1 σ H1 Q I1 q1
/-! lists of expressions -/
theorem a_nil : PA X [] (tEa X.K T ca W C .nil m) := pa_imp pa_nil fun σ H Q ⟨L, β, ρ, B, S, h⟩ => by
  obtain ⟨ds, e, q⟩ := h
  cases e
  exact q [] β H (Mv.refl _ _) S.bx (by rw [Rbs]) fun _ => Rps.nil
theorem a_cons {xs : List Expr} (hs : noStar x = true) (ha : PE X x (tEv X.K T ca W C a m)) (hb : PA X xs (tEa X.K T ca W C b m)) : PA X (x :: xs) (tEa X.K T ca W C (.cons a b) m) := by
  refine pa_imp (pa_cons ha hb (star_of hs)) fun σ H Q ⟨L, β, ρ, B, S, h⟩ => ?_
  refine step1 S h.bind fun r B1 v β1 H1 p m1 S1 rb rp _ => ?_
  refine step1a S1 (p.bind.mv m1) (fun r2 B2 p2 => ?_) fun r2 B2 ds vs β2 H2 p2 hd m2 S2 rbs rps => ?_
  · cases hr : r2.1 with
    | list ds => exact ⟨ds, rfl⟩
    | _ => rw [hr] at p2; exact p2.elim
  · rw [hd] at p2
    obtain ⟨es, e, q⟩ := (show Vas X.K T L β H m Q (.list (r.1 :: ds), false) B2 from p2)
    cases e
    refine q (v :: vs) β2 H2 (m1.trans m2) S2.bx ?_ fun z => Rps.cons ((rp z).mv m2) (rps z)
    rw [Rbs]
    exact ⟨v, vs, rfl, rb.mv m2, rbs⟩
theorem e_tup {es : E} {xs : List Expr} {k1} (ha : PA X xs (tEa X.K T ca W C es true)) : PE X (.Tuple xs k1 pos) (tEv X.K T ca W C (.tup es) m) := by
  refine pe_imp (pe_tup ha) fun σ H Q ⟨L, β, ρ, B, S, h⟩ => ?_
  refine step1a S h.bind (fun r B1 p => ?_) fun r B1 ds vs β1 H1 p hd m1 S1 rbs rps => ?_
  · cases hr : r.1 with
    | list ds => exact ⟨ds, rfl⟩
    | _ => rw [hr] at p; exact p.elim
  · rw [hd] at p
    simp only at p
    split at p
    · rename_i hl
      have rs := rps rfl
      have p3 : Va X.K T L β H m Q (.tuple ds, false) B1 := p
      exact ⟨by rw [rs.length, ← sl24]; exact hl, fun w hw => put_tup S1.bx.live (Va.put S1.bx (p3.mv m1)) rs (by rw [← sl24]; exact hl) hw⟩
    · exact p.elim
theorem e_lst {es : E} {xs : List Expr} (ha : PA X xs (tEa X.K T ca W C es true)) : PE X (.List xs pos) (tEv X.K T ca W C (.lst es) m) := by
  refine pe_imp (pe_lst ha) fun σ H Q ⟨L, β, ρ, B, S, h⟩ => ?_
  refine step1a S h.bind (fun r B1 p => ?_) fun r B1 ds vs β1 H1 p hd m1 S1 rbs rps => ?_
  · cases hr : r.1 with
    | list ds => exact ⟨ds, rfl⟩
    | _ => rw [hr] at p; exact p.elim
  · rw [hd] at p
    simp only at p
    split at p
    · rename_i hl
      have rs := rps rfl
      have p3 : Va X.K T L β H m Q (.list ds, true) B1 := p
      exact ⟨by rw [rs.length, ← sl24]; exact hl, fun w hw => put_lst S1.bx.live (Va.put S1.bx (p3.mv m1)) rs (by rw [← sl24]; exact hl) hw⟩
    · exact p.elim
theorem e_box {es : E} {xs : List Expr} (ha : PA X xs (tEa X.K T ca W C es true)) : PE X (.List xs pos) (tEv X.K T ca W C (.box es) m) := by
  refine pe_imp (pe_lst ha) fun σ H Q ⟨L, β, ρ, B, S, h⟩ => ?_
  refine step1a S h.bind (fun r B1 p => ?_) fun r B1 ds vs β1 H1 p hd m1 S1 rbs rps => ?_
  · cases hr : r.1 with
    | list ds => exact ⟨ds, rfl⟩
    | _ => rw [hr] at p; exact p.elim
  · rw [hd] at p
    simp only at p
    split at p
    · rename_i hl
      have rs := rps rfl
      have p3 : Va X.K T L β H m Q (bref B1.length, false) (B1 ++ [ds]) := p
      refine ⟨by rw [rs.length, ← sl24]; exact hl, fun w hw => ?_⟩
      have kp := keep_upd (o := HO.lst vs) hw
      have m2 : Mv β1 H1 (β1 ++ [w]) (upd H1 w (.lst vs)) := ⟨⟨[w], rfl, fun a ha => by rw [List.mem_singleton.mp ha]; exact hw⟩, fun b o _ e _ => kp b o e, fun b o e => ⟨o, kp b o e⟩⟩
      have nw : w ∉ β1 := fun z => by
        obtain ⟨o, e⟩ := S1.bx.live w (.inr z)
        rw [hw] at e; cases e
      have b2 : Bxs X.K T L (β1 ++ [w]) (B1 ++ [ds]) (upd H1 w (.lst vs)) := by
        refine ⟨by rw [List.length_append, List.length_append, S1.bx.len]; rfl, ?_, fun a z => ?_, fun l zs e => ?_, S1.bx.tabs.ext kp⟩
        · rw [List.nodup_append]
          refine ⟨S1.bx.nd, by simp, fun a ha b hb => ?_⟩
          rw [List.mem_singleton.mp hb]
          exact fun z => nw (z ▸ ha)
        · obtain ⟨⟨o, e⟩, n⟩ := S1.bx.lk a z
          refine ⟨⟨o, kp _ _ e⟩, fun q => ?_⟩
          rcases List.mem_append.mp q with q | q
          · exact n q
          · rw [List.mem_singleton.mp q, hw] at e; cases e
        · rcases Nat.lt_or_ge l B1.length with hl2 | hl2
          · rw [List.getElem?_append_left hl2] at e
            obtain ⟨a, ws, h1, h2, h3, h4⟩ := S1.bx.at_ l zs e
            exact ⟨a, ws, m2.get h1, kp _ _ h2, h3, h4.mv m2⟩
          · rw [List.getElem?_append_right hl2] at e
            have hz : l - B1.length = 0 := by
              rcases Nat.eq_zero_or_pos (l - B1.length) with q | q
              · exact q
              · rw [List.getElem?_eq_none (by show [ds].length ≤ _; simp only [List.length_singleton]; omega)] at e; cases e
            rw [hz] at e
            cases e
            have hlb : l = β1.length := by rw [S1.bx.len]; omega
            refine ⟨w, vs, ?_, upd_same, by rw [← sl24]; exact hl, rs.mv m2⟩
            rw [hlb, List.getElem?_append_right (Nat.le_refl _)]
            simp
      have rp : Rp X.K L (β1 ++ [w]) (upd H1 w (.lst vs)) (bref B1.length) (.ref w) := by
        unfold bref
        rw [Rp]
        refine ⟨B1.length, w, rfl, ?_, rfl⟩
        rw [← S1.bx.len, List.getElem?_append_right (Nat.le_refl _)]
        simp
      exact p3 (.ref w) _ _ (m1.trans m2) b2 (.inl rp) (fun _ => rp) fun z => nomatch z
    · exact p.elim
theorem e_idx (hs : noSlice y = true) (ha : PE X x (tEv X.K T ca W C a false)) (hb : PE X y (tEv X.K T ca W C b false)) : PE X (.Subscript x y pos) (tEv X.K T ca W C (.idx a b) m) := by
  refine pe_imp (pe_ix ix_d ha hb (ix_of hs)) fun σ H Q ⟨L, β, ρ, B, S, h⟩ => ?_
  refine step1 S h.bind fun r B1 v β1 H1 p m1 S1 rb _ _ => step1 S1 (p.bind.mv m1) fun r2 B2 v2 β2 H2 p2 m2 S2 rb2 _ _ => ?_
  obtain ⟨r3, e3, p3⟩ := p2.opt
  cases hc : idxD B2 r.1 r2.1 with
  | none => rw [hc] at e3; cases e3
  | some d =>
    rw [hc] at e3; cases e3
    exact ⟨T, L, β2, B2, r.1, r2.1, d, S2.bx, rb.mv m2, rb2, hc, fun w hw => put_old (Va.put S2.bx (p3.mv (m1.trans m2))) hw⟩
def tEo (K : PySem.W.Frag) (T : List (Addr × Str)) (ca : Nat → Option Addr) (W : WX) (C : Cl) (e : E) : TO := fun σ H Q => ∃ L β ρ B, Se K T L β ρ B σ H ∧ Ok K T ca W L β H σ (ev C e false ρ B) fun r B' => ∃ o, partE e r.1 = some o ∧ ∀ β' H', Mv β H β' H' → Bxs K T L β' B' H' → Q o H'
theorem o_none : PO X none (tEo X.K T ca W C (.k .none)) := by
  refine ⟨fun pins s σ H Q I ⟨L, β, ρ, B, S, h⟩ => po_none.run pins s σ H Q I ?_⟩
  obtain ⟨o, e, q⟩ := h
  cases e
  exact q β H (Mv.refl _ _) S.bx
theorem partE_int {e : E} {d : D} {o : Option Int} (hk : ∀ d, e ≠ .k d) (h : partE e d = some o) : ∃ i, d = .int i ∧ o = some i := by
  unfold partE at h
  split at h
  · exact absurd rfl (hk _)
  · cases h; exact ⟨_, rfl, rfl⟩
  · cases h
theorem o_some (hk : ∀ d, a ≠ .k d) (ha : PE X x (tEv X.K T ca W C a false)) : PO X (some x) (tEo X.K T ca W C a) := by
  refine ⟨fun pins s σ H Q I ⟨L, β, ρ, B, S, h⟩ => (po_some ha).run pins s σ H Q I ?_⟩
  refine step1 S h fun r B1 v β1 H1 p m1 S1 rb _ _ => ?_
  obtain ⟨o, e, q⟩ := p
  obtain ⟨i, hi, ho⟩ := partE_int hk e
  rw [hi] at rb
  subst ho
  exact ⟨i, Rb_int rb, q β1 H1 m1 S1.bx⟩
theorem o_int {i : Int} {j} {p1 : Pos} : PO X (some (.Constant (.int i) j p1)) (tEo X.K T ca W C (.k (.int i))) := by
  refine ⟨fun pins s σ H Q I ⟨L, β, ρ, B, S, h⟩ => (po_some pe_int).run pins s σ H Q I ?_⟩
  obtain ⟨o, e, q⟩ := h
  cases e
  exact ⟨i, rfl, q β H (Mv.refl _ _) S.bx⟩
theorem step1o {e : E} {Q : Option Int → Hp → Prop} {P : R → Bx → Prop} {L : Addr → Prop} {β : List Addr} {ρ : List Sl} {B : Bx} {σ : L2.St} {H : Hp} (S : Se X.K T L β ρ B σ H) (h : Ok X.K T ca W L β H σ (ev C e false ρ B) P)
    (ht : ∀ r B1, P r B1 → ∃ b, partE e r.1 = some b)
    (k : ∀ r B1 b β1 H1, P r B1 → partE e r.1 = some b → Mv β H β1 H1 → Se X.K T L β1 ρ B1 σ H1 → Q b H1) : tEo X.K T ca W C e σ H Q :=
  ⟨L, β, ρ, B, S, h.imp fun r B1 _ p => by
    obtain ⟨b, hb⟩ := ht r B1 p
    exact ⟨b, hb, fun β1 H1 m1 b1 => k r B1 b β1 H1 p hb m1 (S.mv m1 b1)⟩⟩
theorem e_slc {lo hi : Option Expr} {p2 : Pos} (ha : PE X x (tEv X.K T ca W C a false)) (hb : PO X lo (tEo X.K T ca W C b)) (hc : PO X hi (tEo X.K T ca W C c)) : PE X (.Subscript x (.Slice lo hi none p2) pos) (tEv X.K T ca W C (.slc a b c) m) := by
  refine pe_imp (pe_slice sl_d ha hb hc) fun σ H Q ⟨L, β, ρ, B, S, h⟩ => ?_
  refine step1 S h.bind fun r B1 v β1 H1 p m1 S1 rb _ _ => ?_
  refine step1o S1 (p.bind.mv m1) (fun r2 B2 p2 => ?_) fun r2 B2 o2 β2 H2 p2 ho2 m2 S2 => ?_
  · cases hp : partE b r2.1 with
    | none => rw [hp] at p2; exact p2.elim
    | some o => exact ⟨o, rfl⟩
  · rw [ho2] at p2
    refine step1o S2 (p2.bind.mv (m1.trans m2)) (fun r3 B3 p3 => ?_) fun r3 B3 o3 β3 H3 p3 ho3 m3 S3 => ?_
    · cases hp : partE c r3.1 with
      | none => rw [hp] at p3; exact p3.elim
      | some o => exact ⟨o, rfl⟩
    · rw [ho3] at p3
      obtain ⟨r4, e4, p4⟩ := p3.opt
      exact ⟨L, β3, r.1, r4, S3.bx.live, rb.mv (m2.trans m3), e4, Va.put S3.bx (p4.mv ((m1.trans m2).trans m3))⟩
end
end Pv
end
section
set_option linter.all false
set_option maxRecDepth 100000
namespace Pv
open PySem PySem.Spec PySem.SeqAt PyProof.Rows L2 LamX

/-! Pv8: calls -/
def noStars : List Expr → Bool
  | [] => true
  | e :: r => noStar e && noStars r
theorem plain_stars {pos : Pos} {env : Env} : ∀ {es : List Expr}, noStars es = true → (backTo pos (starEach es env)).any (·.1) = false
  | [], _ => rfl
  | e :: r, h => by
    have h' : (noStar e && noStars r) = true := h
    rw [Bool.and_eq_true] at h'
    rw [star_of h'.1]
    have ih := plain_stars (pos := pos) (env := env) h'.2
    unfold backTo at ih ⊢
    rw [List.map_cons, List.any_cons, ih]
    rfl
section
variable {X : Cx} {T : List (Addr × Str)} {ca : Nat → Option Addr} {W : WX} {C : Cl} {a b c : E} {x y z : Expr} {m : Bool} {pos : Pos}
theorem bi_step {bi : Bi} {es : E} {σ : L2.St} {H : Hp} {Q : VK} (h : tEv X.K T ca W C (.bi bi es) m σ H Q) : tEa X.K T ca W C es false σ H fun vs H1 => rBi X.K bi vs H1 Q := by
  obtain ⟨L, β, ρ, B, S, h⟩ := h
  refine step1a S h.bind (fun r B1 p => ?_) fun r B1 ds vs β1 H1 p hd m1 S1 rbs rps => ?_
  · cases hr : r.1 with
    | list ds => exact ⟨ds, rfl⟩
    | _ => rw [hr] at p; exact p.elim
  · rw [hd] at p
    obtain ⟨r3, e3, p3⟩ := Ok.opt p
    exact ⟨T, L, β1, B1, ds, r3, S1.bx, rbs, e3, Va.put S1.bx (p3.mv m1)⟩
theorem e_biB {bi : Bi} {id : String} {n : Str} {es : E} {xs : List Expr} {p1 : Pos} (hr : CallR X (.builtin id) (rBi X.K bi)) (hg : Gl X n) (hm : X.mg n = none) (hv : bootBuiltins n = some (.builtin id)) (hn : n ≠ "__name__") (hdb : (n == ("__debug__" : Str)) = false)
    (ns : noStars (x :: xs) = true) (ha : PA X (x :: xs) (tEa X.K T ca W C es false)) : PE X (.Call (.Name n p1) (x :: xs) [] pos) (tEv X.K T ca W C (.bi bi es) m) := by
  have h' : noStar x = true ∧ noStars xs = true := Bool.and_eq_true_iff.mp ns
  exact pe_imp (pe_callB hr hg hm hv ha hn hdb (star_of h'.1) (plain_stars h'.2)) fun σ H Q h => bi_step h
theorem e_biT {bi : Bi} {id : String} {n : Str} {es : E} {xs : List Expr} {p1 : Pos} (hr : CallR X (.type id) (rBi X.K bi)) (hg : Gl X n) (hm : X.mg n = none) (hv : bootBuiltins n = some (.type id)) (hn : n ≠ "__name__") (hdb : (n == ("__debug__" : Str)) = false)
    (ns : noStars (x :: xs) = true) (ha : PA X (x :: xs) (tEa X.K T ca W C es false)) : PE X (.Call (.Name n p1) (x :: xs) [] pos) (tEv X.K T ca W C (.bi bi es) m) := by
  have h' : noStar x = true ∧ noStars xs = true := Bool.and_eq_true_iff.mp ns
  exact pe_imp (pe_callTy hr hg hm hv ha hn hdb (star_of h'.1) (plain_stars h'.2)) fun σ H Q h => bi_step h
theorem e_isI {t : Ty} {n : Str} {p1 p2 : Pos} (hg : Gl X "isinstance") (hm : X.mg "isinstance" = none) (hg2 : Gl X n) (hm2 : X.mg n = none) (hv2 : bootBuiltins n = some (.type (tyN t))) (hn : n ≠ "__name__") (hdb : (n == ("__debug__" : Str)) = false)
    (ns : noStar x = true) (ha : PE X x (tEv X.K T ca W C a false)) : PE X (.Call (.Name "isinstance" p1) [x, .Name n p2] [] pos) (tEv X.K T ca W C (.bi (.isI t) (.cons a .nil)) m) := by
  refine pe_imp (pe_callB (bi_isI t) hg hm (by decide +kernel) (pa_cons ha (pa_cons (pe_bltn (v := .ty (tyN t)) hg2 hm2 hv2 rfl hn hdb) pa_nil) (star_of ns)) (by decide) (by decide) (star_of ns) rfl) fun σ H Q ⟨L, β, ρ, B, S, h⟩ => ?_
  refine step1 S h.bind.bind fun r B1 v β1 H1 p m1 S1 rb _ _ => ?_
  obtain ⟨r3, e3, p3⟩ := Ok.opt p
  have e4 : (isTy t r.1).map (fun b => ((.bool b, false) : R)) = some r3 := e3
  cases hc : isTy t r.1 with
  | none => rw [hc] at e4; cases e4
  | some k =>
    rw [hc] at e4; cases e4
    exact ⟨L, β1, r.1, v, k, rfl, rb, hc, put_bool (Va.put S1.bx (p3.mv m1))⟩
end
/-- what a def of the table promises: C: its meaning; f: which -/
def spF (K : PySem.W.Frag) (T : List (Addr × Str)) (ca : Nat → Option Addr) (C : Cl) (f : Nat) : Sp := fun vs H Q E => ∃ L β B ds, Bxs K T L β B H ∧ Rps K L β H ds vs ∧ match C f ds B with
  | .ok r B' => ∀ v β' H', Mv β H β' H' → Bxs K T L β' B' H' → Rp K L β' H' r.1 v → (r.2 = true → Fr K L β' H H' r.1 v) → Q v H'
  | .ex c w B' => ∀ a d vw β' H', ca c = some a → Mv β H β' H' → Bxs K T L β' B' H' → H' d = some (.xd [(("what" : Str), vw)]) → Rp K L β' H' w vw → E (.ref a) (some d) H'
  | .bad => False
/-- a def of the table as a caller sees it -/
structure FnAt (X : Cx) (T : List (Addr × Str)) (ca : Nat → Option Addr) (C : Cl) (k : Nat) (f : Nat) (n : Str) : Prop where
  ex : ∃ a fd ps, X.mg n = some (.ref a) ∧ PySem.W.keepIn X.K (.ref a) = true ∧ Binds X.K fd ps [] ∧ FnOk X.prog X.w X.K X.mg X.base (L2N.CX X.prog X.w) k a fd ps (spF X.K T ca C f)

theorem noL_rp {K : PySem.W.Frag} {L L' : Addr → Prop} {β : List Addr} {H : Hp} (hL : ∀ a, L a → ∃ vs, H a = some (.lst vs)) : ∀ (d : D) (v : V), noL d = true → Rp K L' β H d v → Rp K L β H d v := by
  have go : ∀ n, (∀ (d : D) (v : V), sizeOf d < n → noL d = true → Rp K L' β H d v → Rp K L β H d v) ∧ (∀ (ds : List D) (vs : List V), sizeOf ds < n → noLs ds = true → Rps K L' β H ds vs → Rps K L β H ds vs) := by
    intro n
    induction n with
    | zero => exact ⟨fun d v h => absurd h (Nat.not_lt_zero _), fun d v h => absurd h (Nat.not_lt_zero _)⟩
    | succ n ih =>
      refine ⟨fun d v hs hn h => ?_, fun ds vs hs hn h => ?_⟩
      · cases d with
        | none => rw [Rp] at h ⊢; exact h
        | bool b => rw [Rp] at h ⊢; exact h
        | int b => rw [Rp] at h ⊢; exact h
        | str b => rw [Rp] at h ⊢; exact h
        | list xs => rw [noL] at hn; cases hn
        | dict kvs => rw [noL] at hn; cases hn
        | tuple xs =>
          rw [noL] at hn
          rw [Rp] at h ⊢
          obtain ⟨a, vs, e, q, z, r⟩ := h
          have hz : sizeOf (PyData.tuple xs) = 1 + sizeOf xs := by simp
          refine ⟨a, vs, e, ?_, z, ih.2 xs vs (by omega) hn r⟩
          rcases q with ⟨n1, q⟩ | q
          · refine .inl ⟨fun z => ?_, q⟩
            rcases z with z | z
            · obtain ⟨ws, e2⟩ := hL a z
              rcases q with q | ⟨o, q⟩ <;> rw [e2] at q <;> cases q
            · exact n1 (.inr z)
          · exact .inr q
      · cases ds with
        | nil => rw [Rps] at h ⊢; exact h
        | cons d ds =>
          rw [noLs, Bool.and_eq_true] at hn
          rw [Rps] at h ⊢
          obtain ⟨v, r, e, h1, h2⟩ := h
          have : sizeOf (d :: ds) = 1 + sizeOf d + sizeOf ds := rfl
          exact ⟨v, r, e, ih.1 d v (by omega) hn.1 h1, ih.2 ds r (by omega) hn.2 h2⟩
  exact fun d v => (go (sizeOf d + 1)).1 d v (Nat.lt_succ_self _)
theorem noL_rps {K : PySem.W.Frag} {L L' : Addr → Prop} {β : List Addr} {H : Hp} (hL : ∀ a, L a → ∃ vs, H a = some (.lst vs)) : ∀ (ds : List D) (vs : List V), noLs ds = true → Rps K L' β H ds vs → Rps K L β H ds vs
  | [], vs, _, h => by rw [Rps] at h ⊢; exact h
  | d :: ds, vs, hn, h => by
    rw [noLs, Bool.and_eq_true] at hn
    rw [Rps] at h ⊢
    obtain ⟨v, r, e, h1, h2⟩ := h
    exact ⟨v, r, e, noL_rp hL d v hn.1 h1, noL_rps hL ds r hn.2 h2⟩
/-- less is locked -/
theorem Bxs.less {K : PySem.W.Frag} {T : List (Addr × Str)} {L L' : Addr → Prop} {β : List Addr} {B : Bx} {H : Hp} (b : Bxs K T L β B H) (h : ∀ a, L' a → L a) : Bxs K T L' β B H :=
  ⟨b.len, b.nd, fun a z => b.lk a (h a z), fun l xs e => by
    obtain ⟨a, vs, h1, h2, h3, h4⟩ := b.at_ l xs e
    exact ⟨a, vs, h1, h2, h3, Rps.less (fun a z => .inl (z.imp (h a) id)) (fun _ _ q => q) xs vs h4⟩, b.tabs⟩
theorem Rp.low {K : PySem.W.Frag} {L L' : Addr → Prop} {β : List Addr} {H : Hp} (h : ∀ a, L' a → L a) {d : D} {v : V} (r : Rp K L β H d v) : Rp K L' β H d v := Rp.less (fun a z => .inl (z.imp (h a) id)) (fun _ _ q => q) d v r
theorem Rps.low {K : PySem.W.Frag} {L L' : Addr → Prop} {β : List Addr} {H : Hp} (h : ∀ a, L' a → L a) {d : List D} {v : List V} (r : Rps K L β H d v) : Rps K L' β H d v := Rps.less (fun a z => .inl (z.imp (h a) id)) (fun _ _ q => q) d v r
theorem Rbs.free {K : PySem.W.Frag} {L : Addr → Prop} {β : List Addr} {H : Hp} {L' : Addr → Prop} (hL : ∀ a, L' a → L a) : ∀ {ds : List D} {vs : List V}, Rbs K L β H ds vs → (∀ a, V.ref a ∈ vs → ¬ L' a) → Rps K L' β H ds vs
  | [], vs, h, _ => by rw [Rbs] at h; rw [Rps]; exact h
  | d :: ds, vs, h, hf => by
    rw [Rbs] at h; rw [Rps]
    obtain ⟨v, r, e, h1, h2⟩ := h
    subst e
    refine ⟨v, r, rfl, ?_, Rbs.free hL h2 fun a ha => hf a (List.mem_cons_of_mem _ ha)⟩
    rcases h1 with h1 | ⟨xs, a, ws, e1, e2, n, q, z, rr⟩
    · exact h1.low hL
    · subst e1 e2
      rw [Rp]
      exact ⟨a, ws, rfl, fun zz => zz.elim (hf a List.mem_cons_self) n, .inl q, z, rr.low hL⟩
section
variable {X : Cx} {T : List (Addr × Str)} {ca : Nat → Option Addr} {W : WX} {C : Cl} {a b c : E} {x y z : Expr} {m : Bool} {pos : Pos}
theorem e_call {k f : Nat} {n : Str} {es : E} {xs : List Expr} {p1 : Pos} (F : FnAt X T ca C k f n) (hr : Room k X.A) (tk : L2N.Takes X W) (hg : Gl X n) (hdb : (n == ("__debug__" : Str)) = false)
    (ns : noStars (x :: xs) = true) (ha : ∀ m, PA X (x :: xs) (tEa X.K T ca W C es m)) : PE X (.Call (.Name n p1) (x :: xs) [] pos) (tEv X.K T ca W C (.call f es) m) := by
  have h' : noStar x = true ∧ noStars xs = true := Bool.and_eq_true_iff.mp ns
  obtain ⟨ad, fd, ps, hm, hk, hb, F⟩ := F.ex
  refine ⟨fun pins s σ H Q I ⟨L, β, ρ, B, S, h⟩ => ?_⟩
  refine (pe_callSD F hr hg hm hk hb .nil (E := fun σ => WE W σ) (L2N.passAt tk) (ha (!lent ρ es)) hdb (star_of h'.1) (plain_stars h'.2)).run pins s σ H Q I ?_
  refine step1a S h.bind (fun r B1 p => ?_) fun r B1 ds vs β1 H1 p hd m1 S1 rbs rps => ?_
  · cases hr : r.1 with
    | list ds => exact ⟨ds, rfl⟩
    | _ => rw [hr] at p; exact p.elim
  · rw [hd] at p
    show spF X.K T ca C f (vs ++ []) H1 Q (WE W σ)
    rw [List.append_nil]
    cases hl : lent ρ es with
    | false =>
      rw [hl] at p rps
      have p2 : Ok X.K T ca W L β H σ (C f ds B1) (Va X.K T L β H m Q) := p
      refine ⟨L, β1, B1, ds, S1.bx, rps rfl, ?_⟩
      cases hC : C f ds B1 with
      | ok r B' =>
        rw [hC] at p2
        exact fun v β' H' mv bx rp fr => p2 v β' H' (m1.trans mv) bx (.inl rp) (fun _ => rp) fun z => (fr z).mono m1
      | ex c w B' =>
        rw [hC] at p2
        exact fun a d vw β' H' e mv bx q rp => p2 a d vw β' H' e (m1.trans mv) bx q rp
      | bad => rw [hC] at p2; exact p2.elim
    | true =>
      rw [hl] at p
      have p2 : Ok X.K T ca W L β H σ (lentOut (C f ds B1)) (Va X.K T L β H m Q) := p
      have hsub : ∀ a, (L a ∧ V.ref a ∉ vs) → L a := fun a z => z.1
      refine ⟨fun a => L a ∧ V.ref a ∉ vs, β1, B1, ds, S1.bx.less hsub, Rbs.free hsub rbs fun a ha z => z.2 ha, ?_⟩
      have back : ∀ {β' : List Addr} {B' : Bx} {H' : Hp}, Mv β1 H1 β' H' → B'.all noLs = true → Bxs X.K T (fun a => L a ∧ V.ref a ∉ vs) β' B' H' → Bxs X.K T L β' B' H' := fun {β' B' H'} mv hB bx => by
        have lk : ∀ a, L a → (∃ vs, H' a = some (.lst vs)) ∧ a ∉ β' := fun a z => by
          obtain ⟨⟨ws, e⟩, nb⟩ := S1.bx.lk a z
          exact ⟨⟨ws, mv.keep a _ nb e lst_tbl⟩, mv.notin nb e⟩
        refine ⟨bx.len, bx.nd, lk, fun l xs e => ?_, bx.tabs⟩
        obtain ⟨a, ws, h1, h2, h3, h4⟩ := bx.at_ l xs e
        exact ⟨a, ws, h1, h2, h3, noL_rps (fun a z => (lk a z).1) xs ws (List.all_eq_true.mp hB xs (List.mem_of_getElem? e)) h4⟩
      cases hC : C f ds B1 with
      | ok r B' =>
        rw [hC] at p2
        unfold lentOut at p2
        simp only at p2
        split at p2
        · rename_i hn
          rw [Bool.and_eq_true] at hn
          intro v β' H' mv bx rp fr
          have bx' := back mv hn.2 bx
          have rp' := noL_rp (fun a z => (bx'.lk a z).1) r.1 v hn.1 rp
          have p3 : Va X.K T L β H m Q (r.1, false) B' := p2
          exact p3 v β' H' (m1.trans mv) bx' (.inl rp') (fun _ => rp') fun z => nomatch z
        · exact p2.elim
      | ex c w B' =>
        rw [hC] at p2
        unfold lentOut at p2
        simp only at p2
        split at p2
        · rename_i hn
          rw [Bool.and_eq_true] at hn
          intro a d vw β' H' e mv bx q rp
          have bx' := back mv hn.2 bx
          exact p2 a d vw β' H' e (m1.trans mv) bx' q (noL_rp (fun a z => (bx'.lk a z).1) w vw hn.1 rp)
        · exact p2.elim
      | bad => rw [hC] at p2; exact p2.elim
end
end Pv
end
section
set_option linter.all false
set_option maxRecDepth 100000
set_option maxHeartbeats 2000000
namespace Pv
open PySem PySem.Spec PyProof.Rows L2
/-! Pv9a: enumerate of a tuple -/
theorem new_enum_tup (l : Addr) (items : Array Value) (n : Nat) (dd : Option Addr) (sl : Array (Option Value)) :
    Meets (Builtin.«enumerate.__new__» ⟨[.type "enumerate", .ref l], []⟩) (fun _ R s => s.heap.get? l = some { cls := .type "tuple", dict := dd, data := .seq items n, slots := sl } ∧
      R (.ok (.ret (.ref (s.heap.push { cls := .type "tuple_iterator", data := .fields #[.ref l, .int 0 0] }).objs.size)))
        { s with heap := (s.heap.push { cls := .type "tuple_iterator", data := .fields #[.ref l, .int 0 0] }).push { cls := .type "enumerate", data := .fields #[.none, .bool false, .ref s.heap.objs.size, rawInt 0, .none, .none] } }) :=
  .of_wp fun prog w A R s q => by
    obtain ⟨hp, g, d, tk, os⟩ := s
    obtain ⟨hl, q⟩ := q
    have se := sub_enumerate
    have ht : Heap.IsTuple (Shared.heap ⟨hp, g, d, tk, os⟩) l items := ⟨_, hl, rfl, n, rfl⟩
    wp_walk using wpAny_loadPart' hl
    refine wpAny_stack_any fun st => wpAny_pure ?_
    split
    · rename_i cc _ _ _ _ _
      cases (cc == Value.type "enumerate")
      · wp_walk using wpAny_loadPart' hl, wpAny_pyIter_tuple ht
        exact ⟨_, rfl, q⟩
      · wp_walk using wpAny_loadPart' hl, wpAny_pyIter_tuple ht
        exact ⟨_, rfl, q⟩
    · wp_walk using wpAny_loadPart' hl, wpAny_pyIter_tuple ht
      exact ⟨_, rfl, q⟩
abbrev tupItO (l : Addr) : Obj := { cls := .type "tuple_iterator", data := .fields #[.ref l, .int 0 0] }
abbrev enumO (i : Addr) : Obj := { cls := .type "enumerate", data := .fields #[.none, .bool false, .ref i, rawInt 0, .none, .none] }
theorem call_enum_tup {prog : Program} {w : World} {A : Around} {E : Value → Shared → Prop} {s : Shared} {l : Addr} {items : Array Value} {Q : Value → Shared → Prop} (ht : s.heap.IsTuple l items)
    (h : ∀ h', IsEnum h' (s.heap.objs.size + 1) s.heap.objs.size 0 .none → h'.IsTupleIter s.heap.objs.size l 0 → (∀ b o, s.heap.get? b = some o → h'.get? b = some o) → Q (.ref (s.heap.objs.size + 1)) { s with heap := h' }) :
    wpAny (model prog w) A (call (.type "enumerate") [.ref l]) Q E s := by
  obtain ⟨⟨c, dct, dt, sl⟩, hl, hc, n, hd⟩ := ht
  simp only at hc hd
  subst hc hd
  refine callType_new F.called_enumerate (by decide) (F.typeCall_enumerate_1 _) (F.newCall_enumerate_1 _) (fun obj => F.args_object_init_2 obj _) F.entry_enumerate_new (new_enum_tup l items n dct sl) ⟨hl, ?_⟩
  have z1 : (s.heap.push (tupItO l)).objs.size = s.heap.objs.size + 1 := Heap.size_push ..
  show _ ∧ _
  rw [z1]
  have he : IsEnum ((s.heap.push (tupItO l)).push (enumO s.heap.objs.size)) (s.heap.objs.size + 1) s.heap.objs.size 0 .none := by
    have q := Heap.get?_push_size (s.heap.push (tupItO l)) (o := enumO s.heap.objs.size) rfl
    rw [z1] at q
    exact q
  exact ⟨⟨_, he, rfl⟩, h _ he ⟨_, Heap.get?_push_of_some _ (Heap.get?_push_size _ rfl), rfl, rfl⟩ fun b o x => Heap.get?_push_of_some _ (Heap.get?_push_of_some _ x)⟩
/-- the tuple at a, each item in a new pair with its place -/
def IteT (K : PySem.W.Frag) (a : Addr) : It :=
  ⟨fun i H => ∃ (xs : List V) (x : V), SqT K H a xs ∧ xs[i]? = some x,
    fun i H v H' => ∃ T x, v = .ref T ∧ H T = none ∧ H' = upd H T (.tup [.int (i : Nat), x]) ∧ ∀ xs, SqT K H a xs → xs[i]? = some x,
    fun i H => ∃ xs : List V, SqT K H a xs ∧ xs.length = i⟩
theorem walk_enumT {K : PySem.W.Frag} {a : Addr} {xs : List V} : Walk (IteT K a) xs.length (fun H => SqT K H a xs) (YPair (fun i => some (.int (i : Nat))) (fun i => xs[i]?)) := by
  refine ⟨fun i H hi h => ⟨xs, xs[i], h, by simp [hi]⟩, fun H h => ⟨xs, h, rfl⟩, fun i H x H' hi h y => ?_⟩
  obtain ⟨T, z, e1, e2, e3, e4⟩ := y
  exact ⟨T, _, z, e1, e2, e3, rfl, e4 xs h⟩
theorem turn_enumT {P : Program} {w : World} {K : PySem.W.Frag} {elts : List Expr} {kk : Nat} {tpos : Pos} (a e it : Addr) :
    Turn P w K (.Tuple elts kk tpos) (IteT K a) [e, it] e (fun i h => (∃ old, IsEnum h e it ((i : Nat) : Int) old) ∧ h.IsTupleIter it a i ∧ e ≠ it ∧ a ≠ it ∧ a ≠ e) where
  mem := by simp
  obj := fun i h st b hb => by
    obtain ⟨⟨old, he⟩, ⟨o, ho, hc, hd⟩, _⟩ := st
    rcases List.mem_cons.mp hb with z | z
    · rw [z]; exact ⟨_, he, fun v q => nomatch q⟩
    · rw [List.mem_singleton.mp z]; exact ⟨o, ho, fun v q => by rw [hd] at q; cases q⟩
  keep := fun i h h' st k => by
    obtain ⟨⟨old, he⟩, hi, ne⟩ := st
    exact ⟨⟨old, k e (by simp) _ he⟩, hi.at fun o q => k it (by simp) o q, ne⟩
  item := by
    intro X hP hw hK hc i pins s σ H E I hf st hg
    subst hP hw hK
    obtain ⟨⟨old, he⟩, hit, hne, hai, hae⟩ := st
    obtain ⟨xs, x, hq, hx⟩ := hg
    obtain ⟨its, rv, p, hz⟩ := I.tuple hq
    have ht : s.heap.IsTuple a its.toArray := p
    obtain ⟨u, hu, ru⟩ := rv.get hx
    have hel : e < s.heap.objs.size := Heap.lt_size he
    have hil : it < s.heap.objs.size := by obtain ⟨_, q, _⟩ := hit; exact Heap.lt_size q
    have hlt : i < its.toArray.size := by
      rcases Nat.lt_or_ge i its.length with q | q
      · simpa using q
      · rw [List.getElem?_eq_none q] at hu; cases hu
    refine wpAny_pyNext_enum_itemD (Draws.tuple (A := X.A.in1) (show X.A.in1.handled = none from I.ok.hd hc) it a hai its.toArray) he ⟨hit, ht⟩ hlt hne (by simp [hne, Ne.symm hae]) fun y h' tk hy ho hst' hT hsz hk => ?_
    have ey : y = u := by
      have q : its.toArray[i]? = some y := hy
      have q2 : its[i]? = some y := by simpa using q
      rw [hu] at q2; cases q2; rfl
    subst ey
    refine ⟨_, rfl, wpAny_letOwnedTupleGo_enum (s := { s with heap := h', toks := tk + 1 }) ho fun h'' he' sb => ?_⟩
    have hT2 : h''.get? s.heap.objs.size = some { cls := .type "tuple", data := .seq #[.int i tk, y] } := (sb.2 _ (Nat.ne_of_gt hel)).trans hT
    have new : ObjOk X.prog X.w (upd H s.heap.objs.size (.tup [.int (i : Nat), x])) h'' s.heap.objs.size (.tup [.int (i : Nat), x]) :=
      ⟨by show 2 ≤ sizeLine; decide, [.int i tk, y], .cons ⟨_, rfl⟩ (.cons ru .nil), ⟨_, hT2, rfl, _, rfl⟩⟩
    have two : ∀ b, b ∉ [e, it] → b ≠ e ∧ b ≠ it := fun b hb => ⟨fun z => hb (by rw [z]; exact List.mem_cons_self), fun z => hb (by rw [z]; simp)⟩
    have J : Inv X pins σ (upd H s.heap.objs.size (.tup [.int (i : Nat), x])) { s with heap := h'', toks := tk + 1 } :=
      I.turnedNew (ch := [e, it]) (fun b ob hb q => (sb.2 b (two b hb).1).trans (hk b ob (two b hb).1 (two b hb).2 q)) hf (Nat.le_refl _) new
    refine ⟨.ref s.heap.objs.size, _, J, rfl, ⟨_, x, rfl, I.hok.fresh (Nat.le_refl _), rfl, fun ys hy => by rw [I.tuple_inj hy hq]; exact hx⟩, ⟨⟨y, ?_⟩, hst'.1.at fun o q => (sb.2 it (Ne.symm hne)).trans q, hne, hai, hae⟩, fun b hb => ?_⟩
    · have e1 : ((i + 1 : Nat) : Int) = (i : Int) + 1 := by omega
      rw [e1]; exact he'
    · have hb' : b ≠ s.heap.objs.size := by
        rcases List.mem_cons.mp hb with z | z
        · rw [z]; exact Nat.ne_of_lt hel
        · rw [List.mem_singleton.mp z]; exact Nat.ne_of_lt hil
      rw [upd_ne hb']
      exact (hf b hb).1
  done := by
    intro X hP hw hK hc i pins s σ H E I hf st hg
    subst hP hw hK
    obtain ⟨⟨old, he⟩, hit, hne, hai, hae⟩ := st
    obtain ⟨xs, hq, hx⟩ := hg
    obtain ⟨its, rv, p, hz⟩ := I.tuple hq
    have hl : i = its.toArray.size := by rw [List.size_toArray, ← rv.length, hx]
    obtain ⟨f0, f1, f2, f3, f4, f5⟩ := hf it (by simp)
    exact wpAny_pyNext_enum_endD (Draws.tuple (A := X.A.in1) (show X.A.in1.handled = none from I.ok.hd hc) it a hai its.toArray) he ⟨hl ▸ hit, p⟩ fun h' eb => ⟨rfl, I.turned (t' := s.toks) (fun b o hb q => eb b o hb q) f0 f1 f3 f4 f5⟩
  self := fun A i s Q E st h => by
    obtain ⟨⟨_, he⟩, _⟩ := st
    exact wpAny_pyIter_enum he h
end Pv
end
section
set_option linter.all false
set_option maxRecDepth 100000
namespace Pv
open PySem PySem.Spec PySem.SeqAt PyProof.Rows L2 LamX

/-! Pv9: what a for or a comprehension walks -/
/-- what may come behind: m: of a def's body; else of an expression -/
def Lat (m : Bool) (L : Addr → Prop) (β : List Addr) (H : Hp) (L' : Addr → Prop) (β' : List Addr) (H' : Hp) : Prop :=
  Lt L β H L' β' H' ∧ (m = false → Mv β H β' H')
def Src (m : Bool) (K : PySem.W.Frag) (L : Addr → Prop) (β : List Addr) (H : Hp) (xs : List D) (J : It) : Prop :=
  ∃ (G : Hp → Prop) (Y : Nat → Hp → V → Hp → Prop), Walk J xs.length G Y ∧ ∀ L2 β2 H2, Lat m L β H L2 β2 H2 → Live L2 β2 H2 → G H2 ∧ ∀ i x H3, i < xs.length → Y i H2 x H3 →
    (∀ b o, H2 b = some o → H3 b = some o) ∧ ∃ d, xs[i]? = some d ∧ Rp K L2 β2 H3 d x
section
variable {K : PySem.W.Frag} {L : Addr → Prop} {β : List Addr} {H : Hp}
theorem seqL_lt {L2 : Addr → Prop} {β2 : List Addr} {H2 : Hp} {a : Addr} {vs : List V} (n : ¬ Mu L β a) (r : Rd H a (.lst vs)) (l : Lt L β H L2 β2 H2) : SqL K H2 a vs := .inl (Rd.lt l lst_tbl n r).2
theorem seqT_lt {L2 : Addr → Prop} {β2 : List Addr} {H2 : Hp} {a : Addr} {vs : List V} (n : (¬ Mu L β a ∧ Rd H a (.tup vs)) ∨ KT K a vs) (l : Lt L β H L2 β2 H2) : SqT K H2 a vs := by
  rcases n with ⟨n, r⟩ | q
  · exact .inl (Rd.lt l tup_tbl n r).2
  · exact .inr q
/-- the lists, the tuples that stand for a list of data and stay -/
theorem lst_stay {m : Bool} {ds : List D} {v : V} (h : Rb K L β H (.list ds) v) (hp : m = true → Rp K L β H (.list ds) v) :
    ∃ a vs, v = .ref a ∧ SqL K H a vs ∧ ds.length ≤ sizeLine ∧ Rps K L β H ds vs ∧ ∀ L2 β2 H2, Lat m L β H L2 β2 H2 → SqL K H2 a vs ∧ Rps K L2 β2 H2 ds vs := by
  cases m with
  | true =>
    have r := hp rfl
    rw [Rp] at r
    obtain ⟨a, vs, e, n, q, z, rr⟩ := r
    exact ⟨a, vs, e, .inl q, z, rr, fun L2 β2 H2 l => ⟨seqL_lt n q l.1, rr.lt l.1⟩⟩
  | false =>
    rcases h with r | ⟨xs, a, vs, e1, e2, n, q, z, rr⟩
    · rw [Rp] at r
      obtain ⟨a, vs, e, n, q, z, rr⟩ := r
      exact ⟨a, vs, e, .inl q, z, rr, fun L2 β2 H2 l => ⟨seqL_lt n q l.1, rr.lt l.1⟩⟩
    · cases e1
      exact ⟨a, vs, e2, .inl (.inl q), z, rr, fun L2 β2 H2 l => ⟨.inl (.inl ((l.2 rfl).keep a _ n q lst_tbl)), rr.lt l.1⟩⟩
theorem tup_stay {m : Bool} {ds : List D} {v : V} (h : Rb K L β H (.tuple ds) v) :
    ∃ a vs, v = .ref a ∧ SqT K H a vs ∧ ds.length ≤ sizeLine ∧ Rps K L β H ds vs ∧ ∀ L2 β2 H2, Lat m L β H L2 β2 H2 → SqT K H2 a vs ∧ Rps K L2 β2 H2 ds vs := by
  rcases h with r | ⟨_, _, _, e, _⟩
  · rw [Rp] at r
    obtain ⟨a, vs, e, q, z, rr⟩ := r
    refine ⟨a, vs, e, ?_, z, rr, fun L2 β2 H2 l => ⟨seqT_lt q l.1, rr.lt l.1⟩⟩
    rcases q with ⟨_, q⟩ | q
    · exact .inl q
    · exact .inr q
  · cases e
theorem Rps.item {ds : List D} {vs : List V} {i : Nat} {x : V} (r : Rps K L β H ds vs) (h : vs[i]? = some x) : ∃ d, ds[i]? = some d ∧ Rp K L β H d x := by
  have hi : i < ds.length := by
    rw [← r.length]
    rcases Nat.lt_or_ge i vs.length with q | q
    · exact q
    · rw [List.getElem?_eq_none q] at h; cases h
  obtain ⟨w, hw, hr⟩ := r.get (i := i) (d := ds[i]) (by simp [hi])
  rw [h] at hw; cases hw
  exact ⟨ds[i], by simp [hi], hr⟩
theorem src_lst {m : Bool} {ds : List D} {a : Addr} {vs : List V} (hl : vs.length = ds.length) (h : ∀ L2 β2 H2, Lat m L β H L2 β2 H2 → SqL K H2 a vs ∧ Rps K L2 β2 H2 ds vs) : Src m K L β H ds (Itl K a) := by
  refine ⟨_, _, hl ▸ walk_list (K := K) (a := a) (xs := vs), fun L2 β2 H2 l _ => ?_⟩
  obtain ⟨q, r⟩ := h L2 β2 H2 l
  refine ⟨q, fun i x H3 _ y => ?_⟩
  obtain ⟨e, y⟩ := y
  subst e
  exact ⟨fun _ _ z => z, r.item y⟩
theorem src_tup {m : Bool} {ds : List D} {a : Addr} {vs : List V} (hl : vs.length = ds.length) (h : ∀ L2 β2 H2, Lat m L β H L2 β2 H2 → SqT K H2 a vs ∧ Rps K L2 β2 H2 ds vs) : Src m K L β H ds (Itt K a) := by
  refine ⟨_, _, hl ▸ walk_tup (K := K) (a := a) (xs := vs), fun L2 β2 H2 l _ => ?_⟩
  obtain ⟨q, r⟩ := h L2 β2 H2 l
  refine ⟨q, fun i x H3 _ y => ?_⟩
  obtain ⟨e, y⟩ := y
  subst e
  exact ⟨fun _ _ z => z, r.item y⟩
theorem rngL_len (a b : Int) : (rngL a b).length = (b - a).toNat := by unfold rngL; rw [List.length_map, List.length_range]
theorem rngL_get {a b : Int} {i : Nat} (h : i < (b - a).toNat) : (rngL a b)[i]? = some (.int (a + (i : Int))) := by
  unfold rngL
  rw [List.getElem?_map, List.getElem?_range h]
  rfl
theorem src_rng {m : Bool} {a b : Int} {n : Nat} (hn : n = (b - a).toNat) : Src m K L β H (rngL a b) (Itr a n) := by
  refine ⟨_, _, by rw [rngL_len, ← hn]; exact walk_range, fun L2 β2 H2 l _ => ⟨trivial, fun i x H3 hi y => ?_⟩⟩
  obtain ⟨e, y⟩ := y
  subst e y
  rw [rngL_len] at hi
  exact ⟨fun _ _ z => z, _, rngL_get hi, by rw [Rp]⟩
theorem enumL_len : ∀ (ds : List D) (n : Nat), (enumL n ds).length = ds.length
  | [], n => rfl
  | d :: ds, n => by rw [enumL, List.length_cons, List.length_cons, enumL_len ds]
theorem enumL_get : ∀ (ds : List D) (n i : Nat) (d : D), ds[i]? = some d → (enumL n ds)[i]? = some (.tuple [.int ((n + i : Nat) : Int), d])
  | [], n, i, d, h => by simp at h
  | x :: ds, n, 0, d, h => by
    simp at h; subst h
    rfl
  | x :: ds, n, i + 1, d, h => by
    rw [enumL, List.getElem?_cons_succ]
    rw [enumL_get ds (n + 1) i d (by simpa using h)]
    have : n + 1 + i = n + (i + 1) := by omega
    rw [this]
theorem pair_new {L2 : Addr → Prop} {β2 : List Addr} {H2 : Hp} {T : Addr} {d e : D} {x y : V} (lv : Live L2 β2 H2) (hT : H2 T = none) (h1 : Rp K L2 β2 H2 d x) (h2 : Rp K L2 β2 H2 e y) : Rp K L2 β2 (upd H2 T (.tup [x, y])) (.tuple [d, e]) (.ref T) := by
  rw [Rp]
  refine ⟨T, [x, y], rfl, .inl ⟨fun z => ?_, .inl upd_same⟩, by show 2 ≤ sizeLine; decide, ?_⟩
  · obtain ⟨o, e⟩ := lv T z
    rw [hT] at e; cases e
  · exact (Rps.cons h1 (Rps.cons h2 Rps.nil)).mv (Mv.of (keep_upd hT))
theorem src_enumY {m : Bool} {ds : List D} {vs : List V} {J : It} {G : Hp → Prop} (w : Walk J vs.length G (YPair (fun i => some (.int (i : Nat))) (fun i => vs[i]?))) (hl : vs.length = ds.length) (h : ∀ L2 β2 H2, Lat m L β H L2 β2 H2 → G H2 ∧ Rps K L2 β2 H2 ds vs) : Src m K L β H (enumL 0 ds) J := by
  refine ⟨_, _, by rw [enumL_len, ← hl]; exact w, fun L2 β2 H2 l lv => ?_⟩
  obtain ⟨q, r⟩ := h L2 β2 H2 l
  refine ⟨q, fun i x H3 hi y => ?_⟩
  obtain ⟨T, u, v, e1, e2, e3, e4, e5⟩ := y
  subst e1 e3
  cases e4
  obtain ⟨d, hd, hr⟩ := r.item e5
  refine ⟨keep_upd e2, _, enumL_get ds 0 i d hd, ?_⟩
  rw [Nat.zero_add]
  exact pair_new lv e2 (by rw [Rp]) hr
theorem zipL_len : ∀ (xs ys : List D), (zipL xs ys).length = min xs.length ys.length
  | [], ys => by simp [zipL]
  | x :: xs, [] => by simp [zipL]
  | x :: xs, y :: ys => by rw [zipL, List.length_cons, zipL_len xs ys, List.length_cons, List.length_cons, Nat.succ_min_succ]
theorem zipL_get : ∀ (xs ys : List D) (i : Nat) (d e : D), xs[i]? = some d → ys[i]? = some e → (zipL xs ys)[i]? = some (.tuple [d, e])
  | [], ys, i, d, e, h, _ => by simp at h
  | x :: xs, [], i, d, e, _, h => by simp at h
  | x :: xs, y :: ys, 0, d, e, h1, h2 => by
    simp at h1 h2; subst h1 h2; rfl
  | x :: xs, y :: ys, i + 1, d, e, h1, h2 => by
    rw [zipL, List.getElem?_cons_succ]
    exact zipL_get xs ys i d e (by simpa using h1) (by simpa using h2)
end

theorem map_some {α γ : Type} {o : Option α} {f : α → γ} {c : γ} (h : o.map f = some c) : ∃ a, o = some a ∧ c = f a := by
  cases o with
  | none => cases h
  | some a => exact ⟨a, rfl, (Option.some.inj h).symm⟩
theorem rng2_some {a b : Int} {l : List D} (h : rng2 a b = some l) : (-(2 ^ 62) ≤ a ∧ a < 2 ^ 62 ∧ -(2 ^ 62) ≤ b ∧ b < 2 ^ 62 ∧ b - a ≤ 16777216) ∧ l = rngL a b := by
  unfold rng2 at h
  split at h
  · rename_i hc
    exact ⟨hc, (Option.some.inj h).symm⟩
  · cases h
/-! the iterators come -/
def tEi (K : PySem.W.Frag) (T : List (Addr × Str)) (ca : Nat → Option Addr) (W : WX) (C : Cl) (e : E) (m : Bool) : TI := fun σ H R => ∃ L β ρ B, Se K T L β ρ B σ H ∧ Ok K T ca W L β H σ (ev C e m ρ B) fun r B' =>
  ∃ xs, itemsOf r.1 = some xs ∧ ∀ J β' H', Mv β H β' H' → Bxs K T L β' B' H' → xs.length ≤ sizeLine → Src m K L β' H' xs J → R J H'
theorem pi_imp {X : Cx} {tg e : Expr} {t t' : TI} (h : PI X tg e t) (i : ∀ σ H Q, t' σ H Q → t σ H Q) : PI X tg e t' := ⟨fun pins s σ H Q I q => h.run pins s σ H Q I (i σ H Q q)⟩
section
variable {X : Cx} {T : List (Addr × Str)} {ca : Nat → Option Addr} {W : WX} {C : Cl} {a b c : E} {x y z tg : Expr} {m : Bool} {pos : Pos}
/-- a list or a tuple, walked -/
def iSeq (K : PySem.W.Frag) (tl : TE) : TI := fun σ H R => tl σ H fun x H1 => ∃ a, x = .ref a ∧ ((∃ xs, SqL K H1 a xs ∧ R (Itl K a) H1) ∨ ∃ xs, SqT K H1 a xs ∧ R (Itt K a) H1)
theorem pi_seq {l : Expr} {tl : TE} (hl : PE X l tl) : PI X tg l (iSeq X.K tl) := by
  refine ⟨fun pins s σ H R I h => ?_⟩
  refine thn (hl.run pins s σ H _ I h) fun v s1 ⟨x, H1, I1, r1, q1⟩ => ?_
  obtain ⟨a, ex, q⟩ := q1
  subst ex
  cases r1
  rcases q with ⟨xs, hq, q⟩ | ⟨xs, hq, q⟩
  · obtain ⟨its, rv, p, hz⟩ := I1.list hq
    refine wpAny_pyIter_list p.isList ⟨s1.heap.objs.size, [s1.heap.objs.size], _, _, H1, rfl, I1.kept (t' := s1.toks) fun b o e => Heap.get?_push_of_some _ e, turn_list a _, ⟨_, Heap.get?_push_size _ rfl, rfl, rfl⟩, fun b hb => ?_, q⟩
    rw [List.mem_singleton.mp hb]
    exact I1.fpOk (Nat.le_refl _) (I1.hok.fresh (Nat.le_refl _))
  · obtain ⟨its, rv, p, hz⟩ := I1.tuple hq
    refine wpAny_pyIter_tuple p ⟨s1.heap.objs.size, [s1.heap.objs.size], _, _, H1, rfl, I1.kept (t' := s1.toks) fun b o e => Heap.get?_push_of_some _ e, turn_tuple a _, ⟨_, Heap.get?_push_size _ rfl, rfl, rfl⟩, fun b hb => ?_, q⟩
    rw [List.mem_singleton.mp hb]
    exact I1.fpOk (Nat.le_refl _) (I1.hok.fresh (Nat.le_refl _))
theorem i_seq (ha : PE X x (tEv X.K T ca W C a m)) : PI X tg x (tEi X.K T ca W C a m) := by
  refine pi_imp (pi_seq ha) fun σ H RR ⟨L, β, ρ, B, S, h⟩ => ?_
  refine step1 S h fun r B1 v β1 H1 p m1 S1 rb rp _ => ?_
  obtain ⟨xs, hx, q⟩ := p
  cases hr : r.1 with
  | list ds =>
    rw [hr] at hx rb rp; cases hx
    obtain ⟨ad, vs, e, sq, z, rr, st⟩ := lst_stay rb rp
    exact ⟨ad, e, .inl ⟨vs, sq, q _ β1 H1 m1 S1.bx z (src_lst rr.length st)⟩⟩
  | tuple ds =>
    rw [hr] at hx rb; cases hx
    obtain ⟨ad, vs, e, sq, z, rr, st⟩ := tup_stay (m := m) rb
    exact ⟨ad, e, .inr ⟨vs, sq, q _ β1 H1 m1 S1.bx z (src_tup rr.length st)⟩⟩
  | _ => rw [hr] at hx; cases hx
theorem i_rng1 {p1 : Pos} (hg : Gl X "range") (hm : X.mg "range" = none) (hs : noStar x = true) (ha : PE X x (tEv X.K T ca W C a false)) : PI X tg (.Call (.Name "range" p1) [x] [] pos) (tEi X.K T ca W C (.rng (.cons a .nil)) m) := by
  refine pi_imp (pi_range1 hg hm (pa_cons ha pa_nil (star_of hs)) (star_of hs)) fun σ H RR ⟨L, β, ρ, B, S, h⟩ => ?_
  refine step1 S h.bind.bind fun r B1 v β1 H1 p m1 S1 rb _ _ => ?_
  obtain ⟨r3, e3, xs, hx, q⟩ := Ok.opt p
  have e4 : (rngD [r.1]).map (fun l => ((.list l, false) : R)) = some r3 := e3
  cases hr : r.1 with
  | int j =>
    rw [hr] at e4 rb
    obtain ⟨l, hl, e5⟩ := map_some (show (rng2 0 j).map (fun l => ((.list l, false) : R)) = some r3 from e4)
    subst e5
    cases hx
    obtain ⟨hc, el⟩ := rng2_some hl
    subst el
    refine ⟨j, by rw [Rb_int rb], hc.2.2.1, hc.2.2.2.1, q _ β1 H1 m1 S1.bx ?_ (src_rng (by omega))⟩
    rw [rngL_len, ← sl24]; omega
  | _ => rw [hr] at e4; cases e4
theorem i_rng2 {p1 : Pos} (hg : Gl X "range") (hm : X.mg "range" = none) (hs : noStar x = true) (hs2 : noStar y = true) (ha : PE X x (tEv X.K T ca W C a false)) (hb : PE X y (tEv X.K T ca W C b false)) : PI X tg (.Call (.Name "range" p1) [x, y] [] pos) (tEi X.K T ca W C (.rng (.cons a (.cons b .nil))) m) := by
  refine pi_imp (pi_range2 hg hm (pa_cons ha (pa_cons hb pa_nil (star_of hs2)) (star_of hs)) (by rw [star_of hs, star_of hs2]; rfl) (star_of hs2)) fun σ H RR ⟨L, β, ρ, B, S, h⟩ => ?_
  refine step1 S h.bind.bind fun r B1 v β1 H1 p m1 S1 rb _ _ => ?_
  refine step1 S1 ((p.bind.bind).mv m1) fun r2 B2 v2 β2 H2 p2 m2 S2 rb2 _ _ => ?_
  obtain ⟨r3, e3, xs, hx, q⟩ := Ok.opt p2
  have e4 : (rngD [r.1, r2.1]).map (fun l => ((.list l, false) : R)) = some r3 := e3
  cases hr : r.1 with
  | int i =>
    cases hr2 : r2.1 with
    | int j =>
      rw [hr, hr2] at e4
      rw [hr] at rb
      rw [hr2] at rb2
      obtain ⟨l, hl, e5⟩ := map_some (show (rng2 i j).map (fun l => ((.list l, false) : R)) = some r3 from e4)
      subst e5
      cases hx
      obtain ⟨hc, el⟩ := rng2_some hl
      subst el
      refine ⟨i, j, by rw [Rb_int rb, Rb_int rb2], ⟨hc.1, hc.2.1, hc.2.2.1, hc.2.2.2.1⟩, q _ β2 H2 (m1.trans m2) S2.bx ?_ (src_rng rfl)⟩
      rw [rngL_len, ← sl24]; omega
    | _ => rw [hr, hr2] at e4; cases e4
  | _ => rw [hr] at e4; cases hr2 : r2.1 <;> rw [hr2] at e4 <;> cases e4
end
end Pv
end
section
set_option linter.all false
set_option maxRecDepth 100000
namespace Pv
open PySem PySem.Spec PySem.SeqAt PyProof.Rows L2 LamX

/-! Pv10: enumerate, zip, list and tuple of a range, comprehensions -/
section
variable {X : Cx} {T : List (Addr × Str)} {ca : Nat → Option Addr} {W : WX} {C : Cl} {a b c : E} {x y z tg : Expr} {m : Bool} {pos : Pos}
def one1 (P : V → Hp → Prop) : List V → Hp → Prop
  | [v], H => P v H
  | _, _ => False
theorem one1_of {P : V → Hp → Prop} {vs : List V} {H : Hp} (h : one1 P vs H) : ∃ v, vs = [v] ∧ P v H := by
  unfold one1 at h
  split at h
  · exact ⟨_, rfl, h⟩
  · exact h.elim
def iEnumA (K : PySem.W.Frag) (tl : TE) : TI := fun σ H RR => tl σ H fun v H1 => ∃ a, v = .ref a ∧ ((∃ xs, SqL K H1 a xs ∧ RR (Ite K a) H1) ∨ ∃ xs, SqT K H1 a xs ∧ RR (IteT K a) H1)
theorem pi_enumA {tl : TE} {p tpos : Pos} {elts : List Expr} {kk : Nat} (hg : Gl X "enumerate") (hm : X.mg "enumerate" = none) (hs : noStar x = true) (ha : PE X x tl) : PI X (.Tuple elts kk tpos) (.Call (.Name "enumerate" p) [x] [] pos) (iEnumA X.K tl) := by
  refine ⟨fun pins s σ H RR I h => ?_⟩
  have pa : PA X [x] (tCons tl tNil) := pa_cons ha pa_nil (star_of hs)
  refine Call_ (ld_blt I hg hm boot_enumerate (PyProof.Rows.callWith_type1 (thn (pa.run pos pins s σ H (one1 fun v H1 => ∃ a, v = .ref a ∧ ((∃ xs, SqL X.K H1 a xs ∧ RR (Ite X.K a) H1) ∨ ∃ xs, SqT X.K H1 a xs ∧ RR (IteT X.K a) H1)) I ?_) fun us t ⟨vs, H1, J, r1, q1⟩ => ?_) (star_of hs) rfl))
  · exact h
  obtain ⟨w, ew, ad, ev, q⟩ := one1_of q1
  subst ew ev
  obtain ⟨u, eu, ru⟩ := vals1 r1
  subst eu
  cases ru
  have old : ∀ b, b ∈ [t.heap.objs.size + 1, t.heap.objs.size] → t.heap.objs.size ≤ b := fun b hb => by
    rcases List.mem_cons.mp hb with z | z
    · omega
    · have := List.mem_singleton.mp z; omega
  rcases q with ⟨xs, hq, q⟩ | ⟨xs, hq, q⟩
  · obtain ⟨its, rv, pl, hz⟩ := J.list hq
    refine call_enumerate_list pl.isList fun h' he hit _ hk => wpAny_pyIter_enum he ?_
    exact ⟨t.heap.objs.size + 1, [t.heap.objs.size + 1, t.heap.objs.size], _, _, H1, rfl, J.kept (t' := t.toks) hk, turn_enum ad _ _, ⟨⟨.none, he⟩, hit, Nat.succ_ne_self _⟩, fun b hb => J.fpOk (old b hb) (J.hok.fresh (old b hb)), q⟩
  · obtain ⟨its, rv, pl, hz⟩ := J.tuple hq
    have live : ad < t.heap.objs.size := by
      obtain ⟨o, ho, _⟩ := pl
      exact Heap.lt_size ho
    refine call_enum_tup (show t.heap.IsTuple ad its.toArray from pl) fun h' he hit hk => wpAny_pyIter_enum he ?_
    exact ⟨t.heap.objs.size + 1, [t.heap.objs.size + 1, t.heap.objs.size], _, _, H1, rfl, J.kept (t' := t.toks) hk, turn_enumT ad _ _, ⟨⟨.none, he⟩, hit, Nat.succ_ne_self _, Nat.ne_of_lt live, Nat.ne_of_lt (Nat.lt_succ_of_lt live)⟩, fun b hb => J.fpOk (old b hb) (J.hok.fresh (old b hb)), q⟩
theorem i_enum {p tpos : Pos} {elts : List Expr} {kk : Nat} (hg : Gl X "enumerate") (hm : X.mg "enumerate" = none) (hs : noStar x = true) (ha : PE X x (tEv X.K T ca W C a m)) : PI X (.Tuple elts kk tpos) (.Call (.Name "enumerate" p) [x] [] pos) (tEi X.K T ca W C (.enum a) m) := by
  refine pi_imp (pi_enumA hg hm hs ha) fun σ H RR ⟨L, β, ρ, B, S, h⟩ => ?_
  refine step1 S h.bind fun r B1 v β1 H1 p m1 S1 rb rp _ => ?_
  obtain ⟨r3, e3, xs, hx, q⟩ := Ok.opt p
  obtain ⟨l, hl, e5⟩ := map_some e3
  subst e5
  cases hx
  cases hr : r.1 with
  | list ds =>
    rw [hr] at hl rb rp; cases hl
    obtain ⟨ad, vs, e, sq, z, rr, st⟩ := lst_stay rb rp
    exact ⟨ad, e, .inl ⟨vs, sq, q _ β1 H1 m1 S1.bx (by rw [enumL_len]; exact z) (src_enumY walk_enum rr.length st)⟩⟩
  | tuple ds =>
    rw [hr] at hl rb; cases hl
    obtain ⟨ad, vs, e, sq, z, rr, st⟩ := tup_stay (m := m) rb
    exact ⟨ad, e, .inr ⟨vs, sq, q _ β1 H1 m1 S1.bx (by rw [enumL_len]; exact z) (src_enumY walk_enumT rr.length st)⟩⟩
  | _ => rw [hr] at hl; cases hl
theorem src_zip {K : PySem.W.Frag} {L : Addr → Prop} {β : List Addr} {H : Hp} {m : Bool} {ds es : List D} {p q : Addr} {vs ws : List V} (h1 : vs.length = ds.length) (h2 : ws.length = es.length) (h : ∀ L2 β2 H2, Lat m L β H L2 β2 H2 → (SqL K H2 p vs ∧ Rps K L2 β2 H2 ds vs) ∧ SqL K H2 q ws ∧ Rps K L2 β2 H2 es ws) : Src m K L β H (zipL ds es) (Itz K p q) := by
  refine ⟨_, _, walk_zip (xs := vs) (ys := ws) (by rw [zipL_len, h1, h2]), fun L2 β2 H2 l lv => ?_⟩
  obtain ⟨⟨q1, r1⟩, q2, r2⟩ := h L2 β2 H2 l
  refine ⟨⟨q1, q2⟩, fun i x H3 hi y => ?_⟩
  obtain ⟨T, u, v, e1, e2, e3, e4, e5⟩ := y
  subst e1 e3
  obtain ⟨d, hd, hr⟩ := r1.item e4
  obtain ⟨d2, hd2, hr2⟩ := r2.item e5
  exact ⟨keep_upd e2, _, zipL_get ds es i d d2 hd hd2, pair_new lv e2 hr hr2⟩
theorem i_zip {p tpos : Pos} {elts : List Expr} {kk : Nat} (hg : Gl X "zip") (hm : X.mg "zip" = none) (hs : noStar x = true) (hs2 : noStar y = true) (ha : PE X x (tEv X.K T ca W C a true)) (hb : PE X y (tEv X.K T ca W C b true)) : PI X (.Tuple elts kk tpos) (.Call (.Name "zip" p) [x, y] [] pos) (tEi X.K T ca W C (.zip a b) m) := by
  refine pi_imp (RZ.pi_zipA hg hm (pa_cons ha (pa_cons hb pa_nil (star_of hs2)) (star_of hs)) (by rw [star_of hs, star_of hs2]) (by rw [star_of hs2]; rfl)) fun σ H RR ⟨L, β, ρ, B, S, h⟩ => ?_
  refine step1 S h.bind fun r B1 v β1 H1 p m1 S1 rb rp _ => ?_
  refine step1 S1 ((Ok.bind p).mv m1) fun r2 B2 v2 β2 H2 p2 m2 S2 rb2 rp2 _ => ?_
  split at p2
  · rename_i ds hd
    split at p2
    · rename_i es he
      obtain ⟨xs, hx, q⟩ := p2
      cases hx
      have r1 := (rp rfl).mv m2
      have r2' := rp2 rfl
      rw [hd] at r1
      rw [he] at r2'
      obtain ⟨ad, vs, e1, sq1, z1, rr1, st1⟩ := lst_stay (m := true) (.inl r1) fun _ => r1
      obtain ⟨bd, ws, e2, sq2, z2, rr2, st2⟩ := lst_stay (m := true) (.inl r2') fun _ => r2'
      exact ⟨ad, bd, vs, ws, by rw [e1, e2], .inl ⟨sq1, sq2, q _ β2 H2 (m1.trans m2) S2.bx (by rw [zipL_len]; omega) (src_zip rr1.length rr2.length fun L2 β2 H2 l => ⟨st1 L2 β2 H2 ⟨l.1, fun z => nomatch z⟩, st2 L2 β2 H2 ⟨l.1, fun z => nomatch z⟩⟩)⟩⟩
    · exact p2.elim
  · exact p2.elim
/-! list(range(..)), tuple(range(..)) -/
theorem rgV_rps {K : PySem.W.Frag} {L : Addr → Prop} {β : List Addr} {H : Hp} (i j : Int) : Rps K L β H (rngL i j) (rgV i j) := by
  unfold rngL rgV
  generalize List.range (j - i).toNat = l
  induction l with
  | nil => exact Rps.nil
  | cons n l ih => exact Rps.cons (by rw [Rp]) ih
theorem prg_imp {e : Expr} {t t' : L2.St → Hp → (Int → Int → Hp → Prop) → Prop} (h : PRg X e t) (i : ∀ σ H Q, t' σ H Q → t σ H Q) : PRg X e t' := fun pins s σ H Q I q => h pins s σ H Q I (i σ H Q q)
/-- a range, as the argument itself -/
def tEr (K : PySem.W.Frag) (T : List (Addr × Str)) (ca : Nat → Option Addr) (W : WX) (C : Cl) (e : E) : L2.St → Hp → (Int → Int → Hp → Prop) → Prop := fun σ H Q => ∃ L β ρ B, Se K T L β ρ B σ H ∧ Ok K T ca W L β H σ (ev C e false ρ B) fun r B' =>
  ∀ i j β' H', r.1 = .list (rngL i j) → RgOk i j → Mv β H β' H' → Bxs K T L β' B' H' → Q i j H'
theorem g_rng1 {p1 : Pos} (hg : Gl X "range") (hm : X.mg "range" = none) (hs : noStar x = true) (ha : PE X x (tEv X.K T ca W C a false)) : PRg X (.Call (.Name "range" p1) [x] [] pos) (tEr X.K T ca W C (.rng (.cons a .nil))) := by
  refine prg_imp (prg_1 hg hm ha (star_of hs)) fun σ H Q ⟨L, β, ρ, B, S, h⟩ => ?_
  refine step1 S h.bind.bind fun r B1 v β1 H1 p m1 S1 rb _ _ => ?_
  obtain ⟨r3, e3, q⟩ := Ok.opt p
  have e4 : (rngD [r.1]).map (fun l => ((.list l, false) : R)) = some r3 := e3
  cases hr : r.1 with
  | int n =>
    rw [hr] at e4 rb
    obtain ⟨l, hl, e5⟩ := map_some (show (rng2 0 n).map (fun l => ((.list l, false) : R)) = some r3 from e4)
    subst e5
    obtain ⟨hc, el⟩ := rng2_some hl
    subst el
    exact ⟨n, Rb_int rb, q 0 n β1 H1 rfl ⟨hc.1, hc.2.1, hc.2.2.1, hc.2.2.2.1, by omega⟩ m1 S1.bx⟩
  | _ => rw [hr] at e4; cases e4
theorem g_rng2 {p1 : Pos} (hg : Gl X "range") (hm : X.mg "range" = none) (hs : noStar x = true) (hs2 : noStar y = true) (ha : PE X x (tEv X.K T ca W C a false)) (hb : PE X y (tEv X.K T ca W C b false)) : PRg X (.Call (.Name "range" p1) [x, y] [] pos) (tEr X.K T ca W C (.rng (.cons a (.cons b .nil)))) := by
  refine prg_imp (prg_2 hg hm ha hb (star_of hs) (star_of hs2) (by rw [star_of hs2]; rfl)) fun σ H Q ⟨L, β, ρ, B, S, h⟩ => ?_
  refine step1 S h.bind.bind fun r B1 v β1 H1 p m1 S1 rb _ _ => ?_
  refine step1 S1 ((p.bind.bind).mv m1) fun r2 B2 v2 β2 H2 p2 m2 S2 rb2 _ _ => ?_
  obtain ⟨r3, e3, q⟩ := Ok.opt p2
  have e4 : (rngD [r.1, r2.1]).map (fun l => ((.list l, false) : R)) = some r3 := e3
  cases hr : r.1 with
  | int i =>
    cases hr2 : r2.1 with
    | int j =>
      rw [hr, hr2] at e4
      rw [hr] at rb
      rw [hr2] at rb2
      obtain ⟨l, hl, e5⟩ := map_some (show (rng2 i j).map (fun l => ((.list l, false) : R)) = some r3 from e4)
      subst e5
      obtain ⟨hc, el⟩ := rng2_some hl
      subst el
      exact ⟨i, j, Rb_int rb, Rb_int rb2, q i j β2 H2 rfl ⟨hc.1, hc.2.1, hc.2.2.1, hc.2.2.2.1, by omega⟩ (m1.trans m2) S2.bx⟩
    | _ => rw [hr, hr2] at e4; cases e4
  | _ => rw [hr] at e4; cases hr2 : r2.1 <;> rw [hr2] at e4 <;> cases e4
theorem rng_form {es : E} {ρ : List Sl} {B B1 : Bx} {r : R} (h : ev C (.rng es) false ρ B = .ok r B1) : ∃ i j, r = (.list (rngL i j), false) ∧ RgOk i j := by
  simp only [ev] at h
  cases he : ev C es false ρ B with
  | ok r0 B0 =>
    rw [he] at h
    simp only [Out.bind] at h
    cases hr : r0.1 with
    | list xs =>
      rw [hr] at h
      simp only at h
      cases hq : rngD xs with
      | none => rw [hq] at h; cases h
      | some l =>
        rw [hq] at h
        simp only [Option.map, Out.opt] at h
        cases h
        unfold rngD at hq
        split at hq
        · obtain ⟨hc, el⟩ := rng2_some hq
          exact ⟨_, _, by rw [el], hc.1, hc.2.1, hc.2.2.1, hc.2.2.2.1, by omega⟩
        · obtain ⟨hc, el⟩ := rng2_some hq
          exact ⟨_, _, by rw [el], hc.1, hc.2.1, hc.2.2.1, hc.2.2.2.1, by omega⟩
        · cases hq
    | _ => rw [hr] at h; cases h
  | ex c w B0 => rw [he] at h; cases h
  | bad => rw [he] at h; cases h
theorem e_listR {es : E} {p1 : Pos} (hc : X.calm = true) (hg : Gl X "list") (hm : X.mg "list" = none) (hs : noStar x = true) (ha : PRg X x (tEr X.K T ca W C (.rng es))) : PE X (.Call (.Name "list" p1) [x] [] pos) (tEv X.K T ca W C (.bi .listR (.cons (.rng es) .nil)) m) := by
  refine pe_imp (pe_listRg hc hg hm ha (star_of hs)) fun σ H Q ⟨L, β, ρ, B, S, h⟩ => ?_
  refine ⟨L, β, ρ, B, S, h.bind.bind.imp fun r B1 hev p i j β1 H1 er ro m1 b1 => ?_⟩
  obtain ⟨r3, e3, q⟩ := Ok.opt p
  have e4 : listRD [r.1] = some r3 := e3
  rw [er] at e4
  cases e4
  exact ⟨ro, fun w hw => put_lst b1.live (Va.put b1 (q.mv m1)) (rgV_rps i j) (by rw [rngL_len, ← sl24]; exact Nat.le_trans ro.2.2.2.2 (by decide)) hw⟩
theorem e_tupR {es : E} {p1 : Pos} (hc : X.calm = true) (hg : Gl X "tuple") (hm : X.mg "tuple" = none) (hs : noStar x = true) (ha : PRg X x (tEr X.K T ca W C (.rng es))) : PE X (.Call (.Name "tuple" p1) [x] [] pos) (tEv X.K T ca W C (.bi .tupleR (.cons (.rng es) .nil)) m) := by
  refine pe_imp (pe_tupRg hc hg hm ha (star_of hs)) fun σ H Q ⟨L, β, ρ, B, S, h⟩ => ?_
  refine ⟨L, β, ρ, B, S, h.bind.bind.imp fun r B1 hev p i j β1 H1 er ro m1 b1 => ?_⟩
  obtain ⟨r3, e3, q⟩ := Ok.opt p
  have e4 : tupleRD [r.1] = some r3 := e3
  rw [er] at e4
  cases e4
  exact ⟨ro, fun w hw => put_tup b1.live (Va.put b1 (q.mv m1)) (rgV_rps i j) (by rw [rngL_len, ← sl24]; exact Nat.le_trans ro.2.2.2.2 (by decide)) hw⟩
end
end Pv
end
section
set_option linter.all false
set_option maxRecDepth 100000
namespace Pv
open PySem PySem.Spec PySem.SeqAt PyProof.Rows L2 LamX

/-! Pv11: targets -/
def tgs : Tg → List Nat
  | .n i => [i]
  | .tp l => tgs l
  | .nil => []
  | .cons a r => tgs a ++ tgs r
/-- the lists that only one name holds: those that are left are where they were -/
def Kp (ρ : List Sl) (σ : L2.St) (ρ' : List Sl) (σ' : L2.St) : Prop := ∀ (i : Nat) xs, ρ'[i]? = some (.ow xs) → ρ[i]? = some (.ow xs) ∧ σ'[i]? = σ[i]?
def tBt (K : PySem.W.Frag) (T : List (Addr × Str)) (t : Tg) : TG := fun v σ H Q => ∃ L β ρ B d ρ', Se K T L β ρ B σ H ∧ Rp K L β H d v ∧ bindT t d ρ = some ρ' ∧
  ∀ σ', Se K T L β ρ' B σ' H → Kp ρ σ ρ' σ' → σ'.length = σ.length → (∀ j, j ∉ tgs t → σ'[j]? = σ[j]?) → Q σ' H
def tBts (K : PySem.W.Frag) (T : List (Addr × Str)) (t : Tg) : TGs := fun vs σ H Q => ∃ L β ρ B ds ρ', Se K T L β ρ B σ H ∧ Rps K L β H ds vs ∧ bindT t (.list ds) ρ = some ρ' ∧
  ∀ σ', Se K T L β ρ' B σ' H → Kp ρ σ ρ' σ' → σ'.length = σ.length → (∀ j, j ∉ tgs t → σ'[j]? = σ[j]?) → Q σ' H
theorem Kp.refl {ρ : List Sl} {σ : L2.St} : Kp ρ σ ρ σ := fun _ _ h => ⟨h, rfl⟩
theorem Kp.trans {ρ ρ' ρ'' : List Sl} {σ σ' σ'' : L2.St} (a : Kp ρ σ ρ' σ') (b : Kp ρ' σ' ρ'' σ'') : Kp ρ σ ρ'' σ'' := fun i xs h => by
  obtain ⟨h1, h2⟩ := b i xs h
  obtain ⟨h3, h4⟩ := a i xs h1
  exact ⟨h3, h2.trans h4⟩
theorem Se.set {K : PySem.W.Frag} {T : List (Addr × Str)} {L : Addr → Prop} {β : List Addr} {ρ : List Sl} {B : Bx} {σ : L2.St} {H : Hp} (S : Se K T L β ρ B σ H) {i : Nat} {d : D} {v : V} (r : Rp K L β H d v) :
    Se K T L β (ρ.set i (.vl d)) B (σ.set i (some v)) H ∧ Kp ρ σ (ρ.set i (.vl d)) (σ.set i (some v)) := by
  have key : ∀ (j : Nat) (s : Sl), (ρ.set i (.vl d))[j]? = some s → (j = i ∧ s = .vl d ∧ i < σ.length) ∨ (j ≠ i ∧ ρ[j]? = some s) := fun j s h => by
    by_cases e : j = i
    · subst e
      have hl : j < ρ.length := by
        rcases Nat.lt_or_ge j ρ.length with q | q
        · exact q
        · rw [List.getElem?_eq_none (by simpa using q)] at h; cases h
      rw [List.getElem?_set_self hl] at h
      cases h
      exact .inl ⟨rfl, rfl, S.len ▸ hl⟩
    · rw [List.getElem?_set_ne (Ne.symm e)] at h
      exact .inr ⟨e, h⟩
  refine ⟨⟨S.bx, by rw [List.length_set, List.length_set]; exact S.len, fun j x h => ?_, fun j xs h => ?_⟩, fun j xs h => ?_⟩
  · rcases key j _ h with ⟨e, es, hl⟩ | ⟨e, h⟩
    · subst e; cases es
      exact ⟨v, List.getElem?_set_self hl, r⟩
    · obtain ⟨w, h1, h2⟩ := S.vl j x h
      exact ⟨w, by rw [List.getElem?_set_ne (Ne.symm e)]; exact h1, h2⟩
  · rcases key j _ h with ⟨e, es, hl⟩ | ⟨e, h⟩
    · cases es
    · obtain ⟨a, vs, h1, h2⟩ := S.ow j xs h
      exact ⟨a, vs, by rw [List.getElem?_set_ne (Ne.symm e)]; exact h1, h2⟩
  · rcases key j _ h with ⟨e, es, hl⟩ | ⟨e, h⟩
    · cases es
    · exact ⟨h, List.getElem?_set_ne (Ne.symm e)⟩
theorem bindT_list {l : Tg} {d : D} {ρ ρ' : List Sl} (h : bindT (.tp l) d ρ = some ρ') : ∃ ds, d = .tuple ds ∧ bindT l (.list ds) ρ = some ρ' := by
  cases d with
  | tuple ds => exact ⟨ds, rfl, by rw [bindT] at h; exact h⟩
  | _ => simp [bindT] at h
theorem bindT_nil {ds : List D} {ρ ρ' : List Sl} (h : bindT .nil (.list ds) ρ = some ρ') : ds = [] ∧ ρ' = ρ := by
  cases ds with
  | nil => rw [bindT] at h; cases h; exact ⟨rfl, rfl⟩
  | cons d ds => simp [bindT] at h
theorem bindT_cons {a r : Tg} {ds : List D} {ρ ρ' : List Sl} (h : bindT (.cons a r) (.list ds) ρ = some ρ') : ∃ d es ρ1, ds = d :: es ∧ bindT a d ρ = some ρ1 ∧ bindT r (.list es) ρ1 = some ρ' := by
  cases ds with
  | nil => simp [bindT] at h
  | cons d es =>
    rw [bindT] at h
    cases q : bindT a d ρ with
    | none => rw [q] at h; cases h
    | some ρ1 => rw [q] at h; exact ⟨d, es, ρ1, rfl, q, h⟩
/-- how many targets -/
def tgN : Tg → Nat
  | .cons _ r => tgN r + 1
  | _ => 0
theorem assign_star {e : Expr} {es : List Expr} {env : Env} (h : noStar e = true) : assignEach (e :: es) env = (false, assign e env) :: assignEach es env := by
  cases e <;> first | rfl | cases h
theorem assign_len {env : Env} : ∀ {es : List Expr}, noStars es = true → (assignEach es env).length = es.length ∧ (assignEach es env).findIdx? (·.1) = none
  | [], _ => ⟨rfl, rfl⟩
  | e :: r, h => by
    have h' : (noStar e && noStars r) = true := h
    rw [Bool.and_eq_true] at h'
    rw [assign_star h'.1]
    obtain ⟨h1, h2⟩ := assign_len (env := env) h'.2
    refine ⟨by rw [List.length_cons, h1, List.length_cons], ?_⟩
    rw [List.findIdx?_cons, h2]
    rfl
/-! the form of a target: names by their places, those that may be stored -/
mutual
def chkT (N : List Str) (lo : Str → Bool) : Tg → Expr → Bool
  | .n i, .Name y _ => decide (N[i]? = some y) && lo y
  | .tp l, .Tuple es _ _ => noStars es && chkTs N lo l es
  | _, _ => false
def chkTs (N : List Str) (lo : Str → Bool) : Tg → List Expr → Bool
  | .nil, [] => true
  | .cons a r, e :: es => chkT N lo a e && chkTs N lo r es
  | _, _ => false
end
theorem len_of {N : List Str} {lo : Str → Bool} : ∀ {l : Tg} {es : List Expr} {ds : List D} {ρ ρ' : List Sl}, chkTs N lo l es = true → bindT l (.list ds) ρ = some ρ' → ds.length = es.length
  | .nil, es, ds, ρ, ρ', h, e => by
    cases es with
    | nil => rw [(bindT_nil e).1]; rfl
    | cons x xs => simp [chkTs] at h
  | .cons a l, es, ds, ρ, ρ', h, e => by
    cases es with
    | nil => simp [chkTs] at h
    | cons x xs =>
      rw [chkTs, Bool.and_eq_true] at h
      obtain ⟨d, ds', ρ1, e1, e2, e3⟩ := bindT_cons e
      rw [e1, List.length_cons, List.length_cons, len_of h.2 e3]
  | .n i, es, ds, ρ, ρ', h, _ => by cases es <;> simp [chkTs] at h
  | .tp l, es, ds, ρ, ρ', h, _ => by cases es <;> simp [chkTs] at h
section
variable {X : Cx} {T : List (Addr × Str)} {lo : Str → Bool}
mutual
theorem p_tg (hN : X.N.Nodup) (hc : X.calm = true) (hlo : ∀ y, lo y = true → Loc X.env.scope y ∧ (X.fn y = true ∨ X.env.scope.names.lookup y = some .local)) : ∀ (t : Tg) (x : Expr), chkT X.N lo t x = true → PG X x (tBt X.K T t)
  | .n i, x, h => by
    cases x with
    | Name y p =>
      rw [chkT, Bool.and_eq_true, decide_eq_true_eq] at h
      obtain ⟨h1, h2⟩ := hlo y h.2
      refine ⟨fun pins s σ H v u Q I r ⟨L, β, ρ, B, d, ρ', S, rp, e, q⟩ => (pg_name hN h.1 h1 h2).run pins s σ H v u Q I r ?_⟩
      rw [bindT] at e
      cases e
      obtain ⟨S', k⟩ := S.set (i := i) rp
      exact q _ S' k (List.length_set ..) fun j hj => List.getElem?_set_ne fun z => hj (by rw [z]; exact List.mem_cons_self)
    | _ => simp [chkT] at h
  | .tp l, x, h => by
    cases x with
    | Tuple es k p =>
      rw [chkT, Bool.and_eq_true] at h
      obtain ⟨h1, h2⟩ := assign_len (env := X.env) h.1
      refine ⟨fun pins s σ H v u Q I r ⟨L, β, ρ, B, d, ρ', S, rp, e, q⟩ => (pg_tup hc (p_tgs hN hc hlo l es h.2 h.1) h1 h2).run pins s σ H v u Q I r ?_⟩
      obtain ⟨ds, ed, eb⟩ := bindT_list e
      subst ed
      obtain ⟨a, vs, ev, sq, z, rr⟩ := Rp_tup rp
      subst ev
      refine ⟨a, vs, rfl, sq, ?_, L, β, ρ, B, ds, ρ', S, rr, eb, q⟩
      rw [rr.length]
      exact len_of h.2 eb
    | _ => simp [chkT] at h
  | .nil, x, h => by simp [chkT] at h
  | .cons a r, x, h => by simp [chkT] at h
theorem p_tgs (hN : X.N.Nodup) (hc : X.calm = true) (hlo : ∀ y, lo y = true → Loc X.env.scope y ∧ (X.fn y = true ∨ X.env.scope.names.lookup y = some .local)) : ∀ (t : Tg) (xs : List Expr), chkTs X.N lo t xs = true → noStars xs = true → PGs X xs (tBts X.K T t)
  | .nil, xs, h, _ => by
    cases xs with
    | nil =>
      refine ⟨fun pins s σ H vs us Q I r ⟨L, β, ρ, B, ds, ρ', S, rp, e, q⟩ => pgs_nil.run pins s σ H vs us Q I r ?_⟩
      obtain ⟨e1, e2⟩ := bindT_nil e
      subst e1 e2
      rw [Rps] at rp
      exact ⟨rp, q σ S Kp.refl rfl fun _ _ => rfl⟩
    | cons x xs => simp [chkTs] at h
  | .cons a l, xs, h, hs => by
    cases xs with
    | nil => simp [chkTs] at h
    | cons x xs =>
      rw [chkTs, Bool.and_eq_true] at h
      have hs' : (noStar x && noStars xs) = true := hs
      rw [Bool.and_eq_true] at hs'
      refine ⟨fun pins s σ H vs us Q I r ⟨L, β, ρ, B, ds, ρ', S, rp, e, q⟩ => (pgs_cons (p_tg hN hc hlo a x h.1) (p_tgs hN hc hlo l xs h.2 hs'.2) (by rw [assign_star hs'.1]; rfl)).run pins s σ H vs us Q I r ?_⟩
      obtain ⟨d, es, ρ1, e1, e2, e3⟩ := bindT_cons e
      subst e1
      rw [Rps] at rp
      obtain ⟨v, vr, ev, r1, r2⟩ := rp
      refine ⟨v, vr, ev, L, β, ρ, B, d, ρ1, S, r1, e2, fun σ1 S1 k1 l1 o1 => ⟨L, β, ρ1, B, es, ρ', S1, r2, e3, fun σ2 S2 k2 l2 o2 => q σ2 S2 (k1.trans k2) (l2.trans l1) fun j hj => ?_⟩⟩
      rw [tgs, List.mem_append, not_or] at hj
      exact (o2 j hj.2).trans (o1 j hj.1)
  | .n i, xs, h, _ => by cases xs <;> simp [chkTs] at h
  | .tp l, xs, h, _ => by cases xs <;> simp [chkTs] at h
end
end
end Pv
end
section
set_option linter.all false
set_option maxRecDepth 100000
namespace Pv
open PySem PySem.Spec PySem.SeqAt PyProof.Rows L2 LamX

/-! Pv12: comprehensions -/
theorem wipe_get {σ : L2.St} : ∀ (vs : List Nat) (j : Nat), (wipe σ vs)[j]? = if j ∈ vs ∧ j < σ.length then some none else σ[j]?
  | [], j => by simp [wipe]
  | v :: vs, j => by
    unfold wipe
    by_cases e : v = j
    · subst e
      by_cases hl : v < σ.length
      · rw [List.getElem?_set_self (by rw [wipe_length]; exact hl), if_pos ⟨List.mem_cons_self, hl⟩]
      · rw [if_neg (fun z => hl z.2), List.getElem?_eq_none (by rw [List.length_set, wipe_length]; omega), List.getElem?_eq_none (by omega)]
    · rw [List.getElem?_set_ne e, wipe_get vs j]
      have : (j ∈ v :: vs ∧ j < σ.length) ↔ (j ∈ vs ∧ j < σ.length) := by
        rw [List.mem_cons]
        exact ⟨fun z => ⟨z.1.resolve_left (fun q => e q.symm), z.2⟩, fun z => ⟨.inr z.1, z.2⟩⟩
      by_cases h : j ∈ vs ∧ j < σ.length
      · rw [if_pos h, if_pos (this.mpr h)]
      · rw [if_neg h, if_neg (fun z => h (this.mp z))]
theorem wipe_same {σ σ2 : L2.St} {own : List Nat} (hl : σ2.length = σ.length) (h : ∀ j, j ∉ own → σ2[j]? = (wipe σ own)[j]?) : wipe σ2 own = wipe σ own := by
  apply List.ext_getElem?
  intro j
  rw [wipe_get, wipe_get]
  by_cases e : j ∈ own
  · by_cases q : j < σ.length
    · rw [if_pos ⟨e, hl ▸ q⟩, if_pos ⟨e, q⟩]
    · rw [if_neg (fun z => q (hl ▸ z.2)), if_neg (fun z => q z.2), List.getElem?_eq_none (by omega), List.getElem?_eq_none (by omega)]
  · rw [if_neg (fun z => e z.1), if_neg (fun z => e z.1), h j e, wipe_get, if_neg (fun z => e z.1)]
theorem wipeS_len (ρ : List Sl) : ∀ own : List Nat, (wipeS ρ own).length = ρ.length
  | [] => rfl
  | i :: r => by rw [wipeS, List.length_set, wipeS_len ρ r]
theorem wipeS_get {ρ : List Sl} {s : Sl} (hs : s ≠ .un) : ∀ {own : List Nat} {j : Nat}, (wipeS ρ own)[j]? = some s → ρ[j]? = some s ∧ j ∉ own
  | [], j, h => ⟨h, by simp⟩
  | i :: r, j, h => by
    rw [wipeS] at h
    by_cases e : i = j
    · subst e
      by_cases hl : i < (wipeS ρ r).length
      · rw [List.getElem?_set_self hl] at h
        cases h
        exact absurd rfl hs
      · rw [List.getElem?_eq_none (by rw [List.length_set]; omega)] at h; cases h
    · rw [List.getElem?_set_ne e] at h
      obtain ⟨h1, h2⟩ := wipeS_get hs h
      exact ⟨h1, fun z => (List.mem_cons.mp z).elim (fun q => e q.symm) h2⟩
section
variable {K : PySem.W.Frag} {T : List (Addr × Str)} {L L' : Addr → Prop} {β β' : List Addr} {ρ : List Sl} {B : Bx} {σ : L2.St} {H H' : Hp}
theorem Se.wipe (S : Se K T L β ρ B σ H) (own : List Nat) : Se K T L β (wipeS ρ own) B (L2.wipe σ own) H := by
  refine ⟨S.bx, by rw [wipeS_len, wipe_length]; exact S.len, fun i d h => ?_, fun i xs h => ?_⟩
  · obtain ⟨h1, h2⟩ := wipeS_get (s := .vl d) (by intro z; cases z) h
    obtain ⟨v, h3, h4⟩ := S.vl i d h1
    exact ⟨v, by rw [wipe_get, if_neg (fun z => h2 z.1)]; exact h3, h4⟩
  · obtain ⟨h1, h2⟩ := wipeS_get (s := .ow xs) (by intro z; cases z) h
    obtain ⟨a, vs, h3, h4⟩ := S.ow i xs h1
    exact ⟨a, vs, by rw [wipe_get, if_neg (fun z => h2 z.1)]; exact h3, h4⟩
/-- one more is locked: a list that has just come -/
theorem Bxs.lock (b : Bxs K T L β B H) {p : Addr} (hp : H p = none) (vs : List V) : Bxs K T (fun a => L a ∨ a = p) β B (upd H p (.lst vs)) := by
  have kp := keep_upd (o := HO.lst vs) hp
  have np : ∀ a, Mu L β a → a ≠ p := fun a z q => by
    obtain ⟨o, e⟩ := b.live a z
    rw [q, hp] at e; cases e
  refine ⟨b.len, b.nd, fun a z => ?_, fun l xs e => ?_, b.tabs.ext kp⟩
  · rcases z with z | z
    · obtain ⟨⟨ws, e⟩, n⟩ := b.lk a z
      exact ⟨⟨ws, kp _ _ e⟩, n⟩
    · subst z
      exact ⟨⟨vs, upd_same⟩, fun z => np _ (.inr z) rfl⟩
  · obtain ⟨a, ws, h1, h2, h3, h4⟩ := b.at_ l xs e
    refine ⟨a, ws, h1, kp _ _ h2, h3, h4.lt ⟨fun b o _ e _ => kp b o e, fun a z => ?_, fun _ _ q => q, fun b o e => ⟨o, kp b o e⟩⟩⟩
    rcases z with (z | z) | z
    · exact .inl (.inl z)
    · exact .inr (z ▸ hp)
    · exact .inl (.inr z)
/-- a locked list has changed -/
theorem Bxs.chg (b : Bxs K T L β B H) {p : Addr} (hp : L p) (vs : List V) : Bxs K T L β B (upd H p (.lst vs)) := by
  have oth : ∀ c o, c ≠ p → H c = some o → upd H p (.lst vs) c = some o := fun c o n e => by rw [upd_ne n]; exact e
  obtain ⟨⟨ws, ep⟩, nb⟩ := b.lk p hp
  refine ⟨b.len, b.nd, fun a z => ?_, fun l xs e => ?_, fun q hq => ?_⟩
  · obtain ⟨⟨ws, e⟩, n⟩ := b.lk a z
    by_cases q : a = p
    · subst q; exact ⟨⟨vs, upd_same⟩, n⟩
    · exact ⟨⟨ws, oth _ _ q e⟩, n⟩
  · obtain ⟨a, us, h1, h2, h3, h4⟩ := b.at_ l xs e
    refine ⟨a, us, h1, oth _ _ (fun z => nb (z ▸ List.mem_of_getElem? h1)) h2, h3, h4.chg (x := p) (.inl hp) oth⟩
  · obtain ⟨ps, h1, h2, h3⟩ := b.tabs q hq
    refine ⟨ps, oth _ _ (fun z => by rw [z, ep] at h1; cases h1) h1, h2, fun pos cv hc => ?_⟩
    obtain ⟨c, e1, e2⟩ := h3 pos cv hc
    exact ⟨c, e1, oth _ _ (fun z => by rw [z, ep] at e2; cases e2) e2⟩
theorem lcL_cons {f : D → Bx → Out (Option D)} {x : D} {xs rs : List D} {B B' : Bx} (h : lcL f (x :: xs) B = .ok rs B') : ∃ o B1 r, f x B = .ok o B1 ∧ lcL f xs B1 = .ok r B' ∧ rs = (match o with | some y => y :: r | none => r) := by
  rw [lcL] at h
  cases h1 : f x B with
  | ok o B1 =>
    rw [h1] at h
    simp only [Out.bind] at h
    cases h2 : lcL f xs B1 with
    | ok r B2 =>
      rw [h2] at h
      simp only [Out.ok.injEq] at h
      obtain ⟨e1, e2⟩ := h
      subst e2
      exact ⟨o, B1, r, rfl, h2, e1.symm⟩
    | ex c w B2 => rw [h2] at h; cases h
    | bad => rw [h2] at h; cases h
  | ex c w B1 => rw [h1] at h; cases h
  | bad => rw [h1] at h; cases h
end
abbrev W0 : WX := fun _ _ _ _ => False
section
variable {X : Cx} {T : List (Addr × Str)} {ca : Nat → Option Addr} {W : WX} {C : Cl} {m : Bool}
/-- one turn of a comprehension -/
def lcF (C : Cl) (t : Tg) (own : List Nat) (elt c : E) (ρ : List Sl) : D → Bx → Out (Option D) := fun d B => match bindT t d (wipeS ρ own) with
  | some ρ' => (ev C c false ρ' B).bind fun b B => match truth b.1 with
    | some true => (ev C elt true ρ' B).bind fun y B => .ok (some y.1) B
    | some false => .ok none B
    | none => .bad
  | none => .bad
theorem lcF_ok {t : Tg} {own : List Nat} {elt c : E} {ρ : List Sl} {d : D} {B B1 : Bx} {o : Option D} (h : lcF C t own elt c ρ d B = .ok o B1) : ∃ ρ' rc Bc b, bindT t d (wipeS ρ own) = some ρ' ∧ ev C c false ρ' B = .ok rc Bc ∧ truth rc.1 = some b ∧
    ((b = true ∧ ∃ ry, ev C elt true ρ' Bc = .ok ry B1 ∧ o = some ry.1) ∨ (b = false ∧ o = none ∧ B1 = Bc)) := by
  unfold lcF at h
  split at h
  · rename_i ρ' hb
    cases hc : ev C c false ρ' B with
    | ok rc Bc =>
      rw [hc] at h
      simp only [Out.bind] at h
      split at h
      · rename_i ht
        cases he : ev C elt true ρ' Bc with
        | ok ry By =>
          rw [he] at h
          simp only [Out.ok.injEq] at h
          obtain ⟨e1, e2⟩ := h
          subst e2
          exact ⟨ρ', rc, Bc, true, hb, hc, ht, .inl ⟨rfl, ry, he, e1.symm⟩⟩
        | ex c w By => rw [he] at h; cases h
        | bad => rw [he] at h; cases h
      · rename_i ht
        cases h
        exact ⟨ρ', rc, _, false, hb, hc, ht, .inr ⟨rfl, rfl, rfl⟩⟩
      · cases h
    | ex c w Bc => rw [hc] at h; cases h
    | bad => rw [hc] at h; cases h
  · cases h
theorem lc_read {t : Tg} {own : List Nat} {elt it c : E} (ht : ∀ i ∈ tgs t, i ∈ own) {σ : L2.St} {H : Hp} {Q : VK} (h : tEv X.K T ca W C (.lc t own elt it c) m σ H Q) :
    tLc (tEi X.K T ca W C it false) (tBt X.K T t) (tEt X.K T ca W0 C c) (tEv X.K T ca W0 C elt true) own σ H Q := by
  obtain ⟨L, β, ρ, B, S, h⟩ := h
  have h' : Ok X.K T ca W L β H σ ((ev C it false ρ B).bind fun x B => match itemsOf x.1 with
    | some xs => (noEx <| lcL (lcF C t own elt c ρ) xs B).bind fun r B => .ok (.list r, true) B
    | none => .bad) (Va X.K T L β H m Q) := h
  refine ⟨L, β, ρ, B, S, h'.bind.imp fun r B1 hev p => ?_⟩
  cases hx : itemsOf r.1 with
  | none => rw [hx] at p; exact p.elim
  | some xs =>
    rw [hx] at p
    simp only at p
    cases hl : lcL (lcF C t own elt c ρ) xs B1 with
    | ex c w B' => rw [hl] at p; exact p.elim
    | bad => rw [hl] at p; exact p.elim
    | ok rs B' =>
      rw [hl] at p
      have fin : Va X.K T L β H m Q (.list rs, true) B' := p
      refine ⟨xs, rfl, fun J β1 H1 m1 b1 hz src P hP => ?_⟩
      obtain ⟨G, Y, w, hsrc⟩ := src
      have S1 := S.mv m1 b1
      have lvl : ∀ {L2 β2 B2 H2}, Bxs X.K T L2 β2 B2 H2 → Live L2 β2 H2 := fun b => b.live
      have hLP : ∀ a, (L a ∨ a = P) → L a ∨ H1 a = Option.none := fun a z => z.imp id (fun q => by rw [q]; exact hP)
      refine lc_it w (fun i H2 => ∃ β2 B2 accD accV rest, rs = accD ++ rest ∧ lcL (lcF C t own elt c ρ) (xs.drop i) B2 = .ok rest B' ∧ accD.length ≤ i ∧ H2 P = some (.lst accV) ∧ Rps X.K (fun a => L a ∨ a = P) β2 H2 accD accV ∧ Mv β1 H1 β2 H2 ∧ Bxs X.K T (fun a => L a ∨ a = P) β2 B2 H2)
        ⟨β1, B1, [], [], rs, rfl, hl, Nat.le_refl _, upd_same, Rps.nil, Mv.of (keep_upd hP), b1.lock hP []⟩ ?_ ?_ ?_
      · rintro i H2 hi ⟨β2, B2, accD, accV, rest, e1, e2, e3, e4, e5, m2, b2⟩
        exact (hsrc _ β2 H2 ⟨m2.lt hLP, fun _ => m2⟩ b2.live).1
      · rintro i x H2 H3 hi ⟨β2, B2, accD, accV, rest, e1, e2, e3, e4, e5, m2, b2⟩ hy
        obtain ⟨same, d, hd, rp⟩ := (hsrc _ β2 H2 ⟨m2.lt hLP, fun _ => m2⟩ b2.live).2 i x H3 hi hy
        have m3 : Mv β2 H2 β2 H3 := Mv.of same
        have b3 := same_bxs same b2
        have hdrop : xs.drop i = d :: xs.drop (i + 1) := by
          rw [List.drop_eq_getElem_cons hi]
          have : xs[i]? = some xs[i] := by simp [hi]
          rw [this] at hd
          cases hd
          rfl
        rw [hdrop] at e2
        obtain ⟨o, B3, r', f1, f2, f3⟩ := lcL_cons e2
        obtain ⟨ρ', rc, Bc, b, g1, g2, g3, g4⟩ := lcF_ok f1
        have lt13 : Lt L β H (fun a => L a ∨ a = P) β2 H3 := (m1.trans (m2.trans m3)).lt fun a z => z.imp id (fun q => by rw [q]; exact m1.none hP)
        have SW : Se X.K T (fun a => L a ∨ a = P) β2 (wipeS ρ own) B2 (L2.wipe σ own) H3 := by
          refine Se.wipe ⟨b3, S.len, fun j d' hj => ?_, fun j ys hj => ?_⟩ own
          · obtain ⟨v, h1, h2⟩ := S.vl j d' hj
            exact ⟨v, h1, h2.lt lt13⟩
          · obtain ⟨a, vs, h1, h2, h3, h4, h5⟩ := S.ow j ys hj
            exact ⟨a, vs, h1, .inl h2, (m1.trans (m2.trans m3)).keep a _ (S.bx.lk a h2).2 h3 lst_tbl, h4, h5.lt lt13⟩
        refine ⟨_, β2, wipeS ρ own, B2, d, ρ', SW, rp, g1, fun σ2 S2 k2 l2 o2 => ⟨wipe_same (by rw [l2, wipe_length]) fun j hj => o2 j fun z => hj (ht j z), ?_⟩⟩
        refine ⟨_, β2, ρ', B2, S2, ?_⟩
        rw [g2]
        refine ⟨b, g3, fun β3 H4 m4 b4 => ?_⟩
        have nP : P ∉ β2 := (b2.lk P (.inr rfl)).2
        have e4' : H4 P = some (.lst accV) := m4.keep P _ nP (same _ _ e4) lst_tbl
        rcases g4 with ⟨gb, ry, g5, g6⟩ | ⟨gb, g5, g6⟩
        · dsimp only
          rw [if_pos gb]
          refine ⟨_, β3, ρ', Bc, S2.mv m4 b4, ?_⟩
          rw [g5]
          intro v β4 H5 m5 b5 rb5 rp5 fr5
          have nP3 : P ∉ β3 := (b4.lk P (.inr rfl)).2
          have e5' : H5 P = some (.lst accV) := m5.keep P _ nP3 e4' lst_tbl
          have al : accV.length = accD.length := e5.length
          have acc5 := ((e5.mv m3).mv m4).mv m5
          have oth : ∀ c o, c ≠ P → H5 c = some o → upd H5 P (.lst (accV ++ [v])) c = some o := fun c o n e => by rw [upd_ne n]; exact e
          refine ⟨accV, e5', by rw [al]; omega, β4, B3, accD ++ [ry.1], accV ++ [v], r', ?_, f2, ?_, upd_same, ?_, ?_, b5.chg (.inr rfl) _⟩
          · rw [e1, f3, g6]; simp
          · rw [List.length_append, List.length_singleton]; omega
          · exact (acc5.append (Rps.cons (rp5 rfl) Rps.nil)).chg (x := P) (.inl (.inr rfl)) oth
          · have mm := m2.trans (m3.trans (m4.trans m5))
            have nH : ∀ c o, H1 c = some o → c ≠ P := fun c o e z => by rw [z, hP] at e; cases e
            refine ⟨mm.ext, fun c o hc e q => ?_, fun c o e => ?_⟩
            · rw [upd_ne (nH c o e)]; exact mm.keep c o hc e q
            · rw [upd_ne (nH c o e)]; exact mm.live c o e
        · dsimp only
          rw [if_neg (by rw [gb]; exact Bool.false_ne_true)]
          refine ⟨β3, B3, accD, accV, r', ?_, f2, by omega, e4', (e5.mv m3).mv m4, m2.trans (m3.trans m4), by rw [g6]; exact b4⟩
          rw [e1, f3, g5]
      · rintro H2 ⟨β2, B2, accD, accV, rest, e1, e2, e3, e4, e5, m2, b2⟩
        rw [List.drop_length] at e2
        simp only [lcL, Out.ok.injEq] at e2
        obtain ⟨er, eb⟩ := e2
        subst er eb
        rw [List.append_nil] at e1
        subst e1
        have lo : ∀ a, L a → (L a ∨ a = P) := fun a z => .inl z
        have nL : ¬ L P := fun z => by
          obtain ⟨⟨ws, e⟩, _⟩ := b1.lk P z
          rw [hP] at e; cases e
        have nP : P ∉ β2 := (b2.lk P (.inr rfl)).2
        have rr := e5.low lo
        have zz : rs.length ≤ sizeLine := by omega
        have rp : Rp X.K L β2 H2 (.list rs) (.ref P) := by
          rw [Rp]
          exact ⟨P, accV, rfl, fun z => z.elim nL nP, .inl e4, zz, rr⟩
        exact fin _ β2 H2 (m1.trans m2) (b2.less lo) (.inl rp) (fun _ => rp) fun _ => ⟨rs, P, accV, rfl, rfl, m1.none hP, e4, zz, e5⟩
theorem e_lc {t : Tg} {own : List (Str × Nat)} {elt it c : E} {x tg iter : Expr} {ifs : List Expr} {scope : Scope} {pos : Pos} (hc : X.calm = true) (hN : X.N.Nodup) (ht : ∀ i ∈ tgs t, i ∈ own.map (·.2)) (hi : PI X tg iter (tEi X.K T ca W C it false)) (ok : BlkOk X.N X.env.scope scope own)
    (hg : ∀ (s : Shared) (H : Hp) (C' : Addr) (cl : List (Str × Addr)) (fp : List Addr), PG (X.blk s H scope (compEnvC scope cl C' X.env) fp) tg (tBt X.K T t))
    (hif : ∀ (s : Shared) (H : Hp) (C' : Addr) (cl : List (Str × Addr)) (fp : List Addr), PTs (X.blk s H scope (compEnvC scope cl C' X.env) fp) ifs (tEt X.K T ca W0 C c))
    (he : ∀ (s : Shared) (H : Hp) (C' : Addr) (cl : List (Str × Addr)) (fp : List Addr), PE (X.blk s H scope (compEnvC scope cl C' X.env) fp) x (tEv X.K T ca W0 C elt true)) (hs : ∀ v, foldedSetIterable iter X.env v = pure v) :
    PE X (.ListComp x [⟨tg, iter, ifs, 0⟩] scope pos) (tEv X.K T ca W C (.lc t (own.map (·.2)) elt it c) m) :=
  pe_imp (pe_lc hc hN hi ok hg hif he hs) fun σ H Q h => lc_read ht h
theorem t_yes {Y : Cx} : PTs Y [] (tEt Y.K T ca W C (.k (.bool true))) := ⟨fun pins s σ H Q I h => pts_nil.run pins s σ H Q I (by
  obtain ⟨L, β, ρ, B, S, b, hb, q⟩ := h
  cases hb
  exact q β H (Mv.refl _ _) S.bx)⟩
end
end Pv
end
section
set_option linter.all false
set_option maxRecDepth 100000
namespace Pv
open PySem PySem.Spec PySem.SeqAt PyProof.Rows L2 LamX

/-! Pv13: a checker: does the term say what the text says? -/
def visC (sc : Scope) (n : Str) : Bool := match sc.names.lookup n with
  | some .local => true
  | some .cell => true
  | some .free => true
  | _ => false
theorem vis_of {sc : Scope} {n : Str} (h : visC sc n = true) : Vis sc n := by
  unfold visC at h
  split at h
  · exact .inl (by assumption)
  · exact .inr (.inl (by assumption))
  · exact .inr (.inr (by assumption))
  · cases h
def glC (sc : Scope) (n : Str) : Bool := decide (sc.names.lookup n = some .globalImplicit)
def okNm (n : Str) : Bool := !(n == ("__debug__" : Str)) && !(n == ("__classdict__" : Str))
theorem okNm_of {n : Str} (h : okNm n = true) : (n == ("__debug__" : Str)) = false ∧ (n == ("__classdict__" : Str)) = false := by
  unfold okNm at h
  simpa using h
/-- the names that a comprehension's block may bind -/
def loB (raw sc : Scope) (y : Str) : Bool := (sc.names.lookup y == some .local) || ((sc.names.lookup y == some .cell) && (raw.names.lookup y == some .cell))
/-- the names that a def may bind -/
def loD (sc : Scope) (y : Str) : Bool := (sc.names.lookup y == some .local) || (sc.names.lookup y == some .cell)
def noSetE : Expr → Bool
  | .Set .. => false
  | _ => true
theorem fold_of {e : Expr} {env : Env} (h : noSetE e = true) : ∀ v, foldedSetIterable e env v = pure v := by
  intro v
  cases e <;> first | rfl | cases h
def dEq : D → D → Bool
  | .none, .none => true
  | .bool a, .bool b => a == b
  | .int a, .int b => decide (a = b)
  | .str a, .str b => decide (a = b)
  | _, _ => false
theorem dEq_of {a b : D} (h : dEq a b = true) : a = b := by
  unfold dEq at h
  split at h
  · rfl
  · rw [eq_of_beq h]
  · rw [of_decide_eq_true h]
  · rw [of_decide_eq_true h]
  · cases h
inductive Kd where
  | v | t | w | a | i (tg : Expr) | r | o | ts
inductive Xx where
  | e (x : Expr) | l (xs : List Expr) | o (x : Option Expr)
structure Tab where
  consts : List (Str × D)
  fns : List Str
  bis : List Str
def biNm : Bi → Str
  | .len => "len"
  | .int => "int"
  | .max2 => "max"
  | .min2 => "min"
  | .list => "list"
  | .listR => "list"
  | .tuple => "tuple"
  | .tupleR => "tuple"
  | .sorted => "sorted"
  | .sum => "sum"
  | .all => "all"
  | .any => "any"
  | .isI t => tyN t
/-- the builtin y, and nothing of the module's -/
def gb (tb : Tab) (sc : Scope) (y : Str) : Bool := glC sc y && tb.bis.contains y
def isK : E → Bool
  | .k _ => true
  | _ => false
def constC : D → Const → Bool
  | .none, .none => true
  | .bool a, .bool b => a == b
  | .int a, .int b => decide (a = b)
  | .str a, .str b => decide (a = b)
  | _, _ => false
/-- where the code stands: the block's names; the def's own block? -/
structure Sco where
  s : Scope
  top : Bool
abbrev Rc := Sco → Kd → E → Xx → Bool
section
variable (tb : Tab) (N : List Str) (r : Rc) (sc : Sco)
def plB : Bi → Bool
  | .isI _ => false
  | .listR => false
  | .tupleR => false
  | _ => true
def stepBp (b : Bi) (es : E) (y : Str) (xs : List Expr) : Bool := plB b && decide (y = biNm b) && gb tb sc.s (biNm b) && noStars xs && r sc .a es (.l xs)
/-- a call of a builtin -/
def stepB (b : Bi) (es : E) (y : Str) (xs : List Expr) : Bool := match b, es, xs with
  | .isI t, .cons a .nil, [x, .Name n _] => decide (y = "isinstance") && gb tb sc.s "isinstance" && decide (n = tyN t) && gb tb sc.s n && noStar x && r sc .v a (.e x)
  | .isI _, _, _ => false
  | .listR, .cons (.rng e) .nil, [x] => decide (y = "list") && gb tb sc.s "list" && noStar x && r sc .r (.rng e) (.e x)
  | .tupleR, .cons (.rng e) .nil, [x] => decide (y = "tuple") && gb tb sc.s "tuple" && noStar x && r sc .r (.rng e) (.e x)
  | .listR, _, _ => false
  | .tupleR, _, _ => false
  | b, es, x :: xs => stepBp tb r sc b es y (x :: xs)
  | _, _, [] => false
def stepV (e : E) (x : Expr) : Bool := match e, x with
  | .v i, .Name y _ => decide (N[i]? = some y) && visC sc.s y && okNm y
  | .k d, .Constant c _ _ => constC d c
  | .g n d, .Name y _ => decide (n = y) && glC sc.s y && okNm y && (match tb.consts.lookup n with | some d' => dEq d d' | none => false)
  | .neg a, .UnaryOp .USub x _ => r sc .v a (.e x)
  | .not a, .UnaryOp .Not x _ => r sc .v a (.e x)
  | .bin o a b, .BinOp x o' y _ => decide (o = o') && r sc .v a (.e x) && r sc .v b (.e y)
  | .cmp o a b, .Compare x [o'] [y] _ => decide (o = o') && !(behindInMarks o' y) && r sc .v a (.e x) && r sc .v b (.e y)
  | .cmp2 o p a b c, .Compare x [o', p'] [y, z] _ => decide (o = o') && decide (p = p') && !(lastMarks [o', p'] [y, z]) && r sc .v a (.e x) && r sc .v b (.e y) && r sc .v c (.e z)
  | .and a b, .BoolOp .And (x :: y :: rest) p => r sc .v a (.e x) && r sc .v b (.e (.BoolOp .And (y :: rest) p))
  | .or a b, .BoolOp .Or (x :: y :: rest) p => r sc .v a (.e x) && r sc .v b (.e (.BoolOp .Or (y :: rest) p))
  | e, .BoolOp _ [x] _ => r sc .v e (.e x)
  | .ite c a b, .IfExp z x y _ => r sc .t c (.e z) && r sc .v a (.e x) && r sc .v b (.e y)
  | .tup es, .Tuple xs _ _ => r sc .a es (.l xs)
  | .lst es, .List xs _ => r sc .a es (.l xs)
  | .box es, .List xs _ => r sc .a es (.l xs)
  | .slc a b c, .Subscript x (.Slice lo hi none _) _ => r sc .v a (.e x) && r sc .o b (.o lo) && r sc .o c (.o hi)
  | .idx a b, .Subscript x y _ => noSlice y && r sc .v a (.e x) && r sc .v b (.e y)
  | .call f es, .Call (.Name y _) (x :: xs) [] _ => decide (tb.fns[f]? = some y) && glC sc.s y && okNm y && noStars (x :: xs) && r sc .a es (.l (x :: xs))
  | .bi b es, .Call (.Name y _) xs [] _ => stepB tb r sc b es y xs
  | .lc t own elt it c, .ListComp x [⟨tg, iter, ifs, 0⟩] scope _ => let ow := own.map fun i => (N.getD i "", i)
    blkC N sc.s scope ow && (tgs t).all (own.contains ·) && noSetE iter && chkT N (loB scope (relS scope sc.s)) t tg &&
      r sc (.i tg) it (.e iter) && r ⟨relS scope sc.s, false⟩ .ts c (.l ifs) && r ⟨relS scope sc.s, false⟩ .v elt (.e x)
  | _, _ => false
def stepT (e : E) (x : Expr) : Bool := match e, x with
  | .not a, .UnaryOp .Not x _ => r sc .t a (.e x)
  | e, .BoolOp o xs p => r sc .w e (.e (.BoolOp o xs p))
  | .ite c a b, .IfExp z x y _ => r sc .t c (.e z) && r sc .t a (.e x) && r sc .t b (.e y)
  | .cmp o a b, .Compare x [o'] [y] _ => decide (o = o') && !(behindInMarks o' y) && r sc .v a (.e x) && r sc .v b (.e y)
  | .cmp2 o p a b c, .Compare x [o', p'] [y, z] _ => decide (o = o') && decide (p = p') && !(lastMarks [o', p'] [y, z]) && r sc .v a (.e x) && r sc .v b (.e y) && r sc .v c (.e z)
  | e, x => plainTest x && r sc .v e (.e x)
def stepW (e : E) (x : Expr) : Bool := match e, x with
  | .and a b, .BoolOp .And (x :: y :: rest) p => r sc .t a (.e x) && r sc .w b (.e (.BoolOp .And (y :: rest) p))
  | .or a b, .BoolOp .Or (x :: y :: rest) p => r sc .t a (.e x) && r sc .w b (.e (.BoolOp .Or (y :: rest) p))
  | e, .BoolOp _ [x] _ => r sc .t e (.e x)
  | _, _ => false
def stepA (e : E) (xs : List Expr) : Bool := match e, xs with
  | .nil, [] => true
  | .cons a b, x :: xs => noStar x && r sc .v a (.e x) && r sc .a b (.l xs)
  | _, _ => false
def stepO (e : E) (x : Option Expr) : Bool := match e, x with
  | .k .none, none => true
  | .k (.int i), some (.Constant (.int j) _ _) => decide (i = j)
  | e, some x => !(isK e) && r sc .v e (.e x)
  | _, _ => false
def stepR (e : E) (x : Expr) : Bool := match e, x with
  | .rng (.cons a .nil), .Call (.Name y _) [x] [] _ => decide (y = "range") && gb tb sc.s "range" && noStar x && r sc .v a (.e x)
  | .rng (.cons a (.cons b .nil)), .Call (.Name y _) [x, z] [] _ => decide (y = "range") && gb tb sc.s "range" && noStar x && noStar z && r sc .v a (.e x) && r sc .v b (.e z)
  | _, _ => false
def isTup : Expr → Bool
  | .Tuple .. => true
  | _ => false
def stepI (tg : Expr) (e : E) (x : Expr) : Bool := match e, x with
  | .rng (.cons a .nil), .Call (.Name y _) [x] [] _ => decide (y = "range") && gb tb sc.s "range" && noStar x && r sc .v a (.e x)
  | .rng (.cons a (.cons b .nil)), .Call (.Name y _) [x, z] [] _ => decide (y = "range") && gb tb sc.s "range" && noStar x && noStar z && r sc .v a (.e x) && r sc .v b (.e z)
  | .enum a, .Call (.Name y _) [x] [] _ => isTup tg && decide (y = "enumerate") && gb tb sc.s "enumerate" && noStar x && r sc .v a (.e x)
  | .zip a b, .Call (.Name y _) [x, z] [] _ => isTup tg && decide (y = "zip") && gb tb sc.s "zip" && noStar x && noStar z && r sc .v a (.e x) && r sc .v b (.e z)
  | e, x => r sc .v e (.e x)
def stepTs (e : E) (xs : List Expr) : Bool := match e, xs with
  | .k (.bool true), [] => true
  | e, [x] => r sc .t e (.e x)
  | _, _ => false
end
def chk (tb : Tab) (N : List Str) (hd : Rc → Rc) : Nat → Rc
  | 0, _, _, _, _ => false
  | n + 1, sc, k, e, x => match k, x with
    | .v, .e x => stepV tb N (chk tb N hd n) sc e x || hd (chk tb N hd n) sc .v e (.e x)
    | .t, .e x => stepT (chk tb N hd n) sc e x
    | .w, .e x => stepW (chk tb N hd n) sc e x
    | .a, .l xs => stepA (chk tb N hd n) sc e xs
    | .o, .o x => stepO (chk tb N hd n) sc e x
    | .r, .e x => stepR tb (chk tb N hd n) sc e x
    | .i tg, .e x => stepI tb (chk tb N hd n) sc tg e x
    | .ts, .l xs => stepTs (chk tb N hd n) sc e xs
    | _, _ => false

/-- what the checker says -/
def Sd (X : Cx) (T : List (Addr × Str)) (ca : Nat → Option Addr) (W : WX) (C : Cl) : Kd → E → Xx → Prop
  | .v, e, .e x => ∀ m, PE X x (tEv X.K T ca W C e m)
  | .t, e, .e x => PT X x (tEt X.K T ca W C e)
  | .w, e, .e x => PW X x (tEt X.K T ca W C e)
  | .a, e, .l xs => ∀ m, PA X xs (tEa X.K T ca W C e m)
  | .i tg, e, .e x => ∀ m, PI X tg x (tEi X.K T ca W C e m)
  | .r, e, .e x => PRg X x (tEr X.K T ca W C e)
  | .o, e, .o x => PO X x (tEo X.K T ca W C e)
  | .ts, e, .l xs => PTs X xs (tEt X.K T ca W C e)
  | _, _, _ => False
structure TabOk (tb : Tab) (X : Cx) (T : List (Addr × Str)) (ca : Nat → Option Addr) (C : Cl) (k : Nat) : Prop where
  consts : ∀ n d, tb.consts.lookup n = some d → ∃ v u, X.mg n = some u ∧ RelV v u ∧ ∀ L β H, Rp X.K L β H d v
  bis : ∀ n, tb.bis.contains n = true → X.mg n = none
  fns : ∀ f n, tb.fns[f]? = some n → FnAt X T ca C k f n
structure Cok (tb : Tab) (N : List Str) (Hx : Cx → Prop) (X : Cx) (T : List (Addr × Str)) (ca : Nat → Option Addr) (W : WX) (C : Cl) (k : Nat) (sc : Sco) : Prop where
  tab : TabOk tb X T ca C k
  nm : X.N = N
  scp : X.env.scope = sc.s
  nd : N.Nodup
  calm : X.calm = true
  room : Room k X.A
  hx : sc.top = true → Hx X ∧ Room (k + 3) X.A
  tk : L2N.Takes X W
/-- the checker's rest is right -/
def RcOk (tb : Tab) (N : List Str) (Hx : Cx → Prop) (T : List (Addr × Str)) (ca : Nat → Option Addr) (C : Cl) (k : Nat) (r : Rc) : Prop :=
  ∀ X W sc kd e x, Cok tb N Hx X T ca W C k sc → r sc kd e x = true → Sd X T ca W C kd e x
section
variable {tb : Tab} {N : List Str} {Hx : Cx → Prop} {X : Cx} {T : List (Addr × Str)} {ca : Nat → Option Addr} {W : WX} {C : Cl} {k : Nat} {sc : Sco} {r : Rc}
theorem Cok.units (o : Cok tb N Hx X T ca W C k sc) : X.A.units + 80 < cLine := by have := o.room.un; omega
theorem Cok.gl (o : Cok tb N Hx X T ca W C k sc) {n : Str} (h : glC sc.s n = true) : Gl X n := by
  have := of_decide_eq_true h
  show X.env.scope.names.lookup n = _
  rw [o.scp]; exact this
theorem Cok.gb (o : Cok tb N Hx X T ca W C k sc) {n : Str} (h : gb tb sc.s n = true) : Gl X n ∧ X.mg n = none := by
  have h' : (glC sc.s n && tb.bis.contains n) = true := h
  rw [Bool.and_eq_true] at h'
  exact ⟨o.gl h'.1, o.tab.bis n h'.2⟩
theorem Cok.blk (o : Cok tb N Hx X T ca W C k sc) {s : Shared} {H : Hp} {scope : Scope} {C' : Addr} {cl : List (Str × Addr)} {fp : List Addr} :
    Cok tb N Hx (X.blk s H scope (compEnvC scope cl C' X.env) fp) T ca W0 C k ⟨relS scope sc.s, false⟩ :=
  ⟨⟨o.tab.consts, o.tab.bis, fun f n h => ⟨(o.tab.fns f n h).ex⟩⟩, o.nm, by show relS scope X.env.scope = _; rw [o.scp], o.nd, o.calm, o.room, (fun z => nomatch z), fun u s' ⟨_, _, _, _, _, _, _, _, _, _, _, _, _, _, _, _, w⟩ => w.elim⟩
theorem loB_of {s : Shared} {H : Hp} {scope : Scope} {C' : Addr} {cl : List (Str × Addr)} {fp : List Addr} (o : Cok tb N Hx X T ca W C k sc) (y : Str) (h : loB scope (relS scope sc.s) y = true) :
    Loc (X.blk s H scope (compEnvC scope cl C' X.env) fp).env.scope y ∧ ((X.blk s H scope (compEnvC scope cl C' X.env) fp).fn y = true ∨ (X.blk s H scope (compEnvC scope cl C' X.env) fp).env.scope.names.lookup y = some .local) := by
  have e : (X.blk s H scope (compEnvC scope cl C' X.env) fp).env.scope = relS scope sc.s := by show relS scope X.env.scope = _; rw [o.scp]
  rw [e]
  unfold loB at h
  rw [Bool.or_eq_true, Bool.and_eq_true] at h
  rcases h with h | ⟨h1, h2⟩
  · have := eq_of_beq h
    exact ⟨.inl this, .inr this⟩
  · exact ⟨.inr (eq_of_beq h1), .inl h2⟩
theorem andE {a b : Bool} (h : (a && b) = true) : a = true ∧ b = true := Bool.and_eq_true_iff.mp h
theorem notE {a : Bool} (h : (!a) = true) : a = false := by cases a <;> first | rfl | cases h
theorem stepBp_ok (hr : RcOk tb N Hx T ca C k r) (o : Cok tb N Hx X T ca W C k sc) {b : Bi} {es : E} {y : Str} {x : Expr} {xs : List Expr} {p1 pos : Pos} {m : Bool} (h : stepBp tb r sc b es y (x :: xs) = true) : PE X (.Call (.Name y p1) (x :: xs) [] pos) (tEv X.K T ca W C (.bi b es) m) := by
  obtain ⟨h, h4⟩ := andE h
  obtain ⟨h, h3⟩ := andE h
  obtain ⟨h, h2⟩ := andE h
  obtain ⟨h0, h⟩ := andE h
  have e1 := of_decide_eq_true h
  subst e1
  obtain ⟨g1, g2⟩ := o.gb h2
  have ha : PA X (x :: xs) (tEa X.K T ca W C es false) := hr X W sc .a _ (.l _) o h4 false
  cases b with
  | len => exact e_biB bi_len g1 g2 (by decide +kernel) (by decide) (by decide) h3 ha
  | int => exact e_biT bi_int g1 g2 (by decide +kernel) (by decide) (by decide) h3 ha
  | max2 => exact e_biB (bi_max o.calm) g1 g2 (by decide +kernel) (by decide) (by decide) h3 ha
  | min2 => exact e_biB (bi_min o.calm) g1 g2 (by decide +kernel) (by decide) (by decide) h3 ha
  | list => exact e_biT bi_list g1 g2 (by decide +kernel) (by decide) (by decide) h3 ha
  | tuple => exact e_biT bi_tuple g1 g2 (by decide +kernel) (by decide) (by decide) h3 ha
  | sorted => exact e_biB (bi_sorted o.units) g1 g2 (by decide +kernel) (by decide) (by decide) h3 ha
  | sum => exact e_biB (bi_sum o.calm) g1 g2 (by decide +kernel) (by decide) (by decide) h3 ha
  | all => exact e_biB (bi_all o.calm) g1 g2 (by decide +kernel) (by decide) (by decide) h3 ha
  | any => exact e_biB (bi_any o.calm) g1 g2 (by decide +kernel) (by decide) (by decide) h3 ha
  | isI t => cases h0
  | listR => cases h0
  | tupleR => cases h0
theorem stepB_ok (hr : RcOk tb N Hx T ca C k r) (o : Cok tb N Hx X T ca W C k sc) {b : Bi} {es : E} {y : Str} {xs : List Expr} {p1 pos : Pos} {m : Bool} (h : stepB tb r sc b es y xs = true) : PE X (.Call (.Name y p1) xs [] pos) (tEv X.K T ca W C (.bi b es) m) := by
  unfold stepB at h
  split at h
  · rename_i t a x n _
    obtain ⟨h, h6⟩ := andE h
    obtain ⟨h, h5⟩ := andE h
    obtain ⟨h, h4⟩ := andE h
    obtain ⟨h, h3⟩ := andE h
    obtain ⟨h, h2⟩ := andE h
    have e1 := of_decide_eq_true h
    have e2 := of_decide_eq_true h3
    subst e1 e2
    obtain ⟨g1, g2⟩ := o.gb h2
    obtain ⟨g3, g4⟩ := o.gb h4
    refine e_isI g1 g2 g3 g4 ?_ ?_ ?_ h5 (hr X W sc .v _ (.e _) o h6 false)
    · cases t <;> decide +kernel
    · cases t <;> decide +kernel
    · cases t <;> decide +kernel
  · cases h
  · rename_i e x
    obtain ⟨h, h4⟩ := andE h
    obtain ⟨h, h3⟩ := andE h
    obtain ⟨h, h2⟩ := andE h
    have e1 := of_decide_eq_true h
    subst e1
    obtain ⟨g1, g2⟩ := o.gb h2
    exact e_listR o.calm g1 g2 h3 (hr X W sc .r _ (.e _) o h4)
  · rename_i e x
    obtain ⟨h, h4⟩ := andE h
    obtain ⟨h, h3⟩ := andE h
    obtain ⟨h, h2⟩ := andE h
    have e1 := of_decide_eq_true h
    subst e1
    obtain ⟨g1, g2⟩ := o.gb h2
    exact e_tupR o.calm g1 g2 h3 (hr X W sc .r _ (.e _) o h4)
  · cases h
  · cases h
  · exact stepBp_ok hr o h
  · cases h
end
end Pv
end
section
set_option linter.all false
set_option maxRecDepth 100000
namespace Pv
open PySem PySem.Spec PySem.SeqAt PyProof.Rows L2 LamX

/-! Pv14: the checker is right about expressions -/
section
variable {tb : Tab} {N : List Str} {Hx : Cx → Prop} {X : Cx} {T : List (Addr × Str)} {ca : Nat → Option Addr} {W : WX} {C : Cl} {k : Nat} {sc : Sco} {r : Rc}
theorem constC_ok {d : D} {c : Const} {j : Nat} {pos : Pos} {m : Bool} (h : constC d c = true) : PE X (.Constant c j pos) (tEv X.K T ca W C (.k d) m) := by
  unfold constC at h
  split at h
  · exact e_none
  · rw [← eq_of_beq h]; exact e_bool
  · rw [← of_decide_eq_true h]; exact e_int
  · rw [← of_decide_eq_true h]; exact e_str
  · cases h
theorem Cok.vis (o : Cok tb N Hx X T ca W C k sc) {n : Str} (h : visC sc.s n = true) : Vis X.env.scope n := by
  rw [o.scp]; exact vis_of h
theorem own_ix (N : List Str) : ∀ own : List Nat, (own.map fun i => (N.getD i "", i)).map (·.2) = own
  | [] => rfl
  | i :: l => by rw [List.map_cons, List.map_cons, own_ix N l]
theorem stepV_ok (hr : RcOk tb N Hx T ca C k r) (o : Cok tb N Hx X T ca W C k sc) {e : E} {x : Expr} {m : Bool} (h : stepV tb N r sc e x = true) : PE X x (tEv X.K T ca W C e m) := by
  unfold stepV at h
  split at h
  · obtain ⟨h, h3⟩ := andE h
    obtain ⟨h1, h2⟩ := andE h
    obtain ⟨g1, g2⟩ := okNm_of h3
    exact e_v (by rw [o.nm]; exact of_decide_eq_true h1) (o.vis h2) g1 g2
  · exact constC_ok h
  · obtain ⟨h, h4⟩ := andE h
    obtain ⟨h, h3⟩ := andE h
    obtain ⟨h1, h2⟩ := andE h
    have e1 := of_decide_eq_true h1
    subst e1
    split at h4
    · rename_i d' hd
      rw [dEq_of h4]
      obtain ⟨v, u, c1, c2, c3⟩ := o.tab.consts _ _ hd
      exact e_g (o.gl h2) c1 c2 (okNm_of h3).1 c3
    · cases h4
  · exact e_neg (hr X W sc .v _ (.e _) o h false)
  · exact e_not (hr X W sc .v _ (.e _) o h false)
  · obtain ⟨h, h3⟩ := andE h
    obtain ⟨h1, h2⟩ := andE h
    have e1 := of_decide_eq_true h1
    subst e1
    exact e_bin (hr X W sc .v _ (.e _) o h2 false) (hr X W sc .v _ (.e _) o h3 false)
  · obtain ⟨h, h3⟩ := andE h
    obtain ⟨h, h2⟩ := andE h
    obtain ⟨h1, h0⟩ := andE h
    have e1 := of_decide_eq_true h1
    subst e1
    exact e_cmp o.units (notE h0) (hr X W sc .v _ (.e _) o h2 false) (hr X W sc .v _ (.e _) o h3 false)
  · obtain ⟨h, h5⟩ := andE h
    obtain ⟨h, h4⟩ := andE h
    obtain ⟨h, h3⟩ := andE h
    obtain ⟨h, h2⟩ := andE h
    obtain ⟨h1, h0⟩ := andE h
    have e1 := of_decide_eq_true h1
    have e2 := of_decide_eq_true h0
    subst e1 e2
    exact e_cmp2 o.units (notE h2) (hr X W sc .v _ (.e _) o h3 false) (hr X W sc .v _ (.e _) o h4 false) (hr X W sc .v _ (.e _) o h5 false)
  · obtain ⟨h1, h2⟩ := andE h
    exact e_and (p1 := default) (hr X W sc .v _ (.e _) o h1 m) (hr X W sc .v _ (.e _) o h2 m)
  · obtain ⟨h1, h2⟩ := andE h
    exact e_or (p1 := default) (hr X W sc .v _ (.e _) o h1 m) (hr X W sc .v _ (.e _) o h2 m)
  · exact pe_one (hr X W sc .v _ (.e _) o h m)
  · obtain ⟨h, h3⟩ := andE h
    obtain ⟨h1, h2⟩ := andE h
    exact e_ite (hr X W sc .t _ (.e _) o h1) (hr X W sc .v _ (.e _) o h2 m) (hr X W sc .v _ (.e _) o h3 m)
  · exact e_tup (hr X W sc .a _ (.l _) o h true)
  · exact e_lst (hr X W sc .a _ (.l _) o h true)
  · exact e_box (hr X W sc .a _ (.l _) o h true)
  · obtain ⟨h, h3⟩ := andE h
    obtain ⟨h1, h2⟩ := andE h
    exact e_slc (hr X W sc .v _ (.e _) o h1 false) (hr X W sc .o _ (.o _) o h2) (hr X W sc .o _ (.o _) o h3)
  · obtain ⟨h, h3⟩ := andE h
    obtain ⟨h1, h2⟩ := andE h
    exact e_idx h1 (hr X W sc .v _ (.e _) o h2 false) (hr X W sc .v _ (.e _) o h3 false)
  · obtain ⟨h, h5⟩ := andE h
    obtain ⟨h, h4⟩ := andE h
    obtain ⟨h, h3⟩ := andE h
    obtain ⟨h1, h2⟩ := andE h
    exact e_call (o.tab.fns _ _ (of_decide_eq_true h1)) (o.room.mono (by omega)) o.tk (o.gl h2) (okNm_of h3).1 h4 fun m => hr X W sc .a _ (.l _) o h5 m
  · exact stepB_ok hr o h
  · rename_i t own elt it c x tg iter ifs scope p
    obtain ⟨h, h7⟩ := andE h
    obtain ⟨h, h6⟩ := andE h
    obtain ⟨h, h5⟩ := andE h
    obtain ⟨h, h4⟩ := andE h
    obtain ⟨h, h3⟩ := andE h
    obtain ⟨h1, h2⟩ := andE h
    have hb := blkOk_by h1
    have key := e_lc (X := X) (T := T) (ca := ca) (W := W) (C := C) (m := m) (t := t) (own := own.map fun i => (N.getD i "", i)) (elt := elt) (it := it) (c := c) (x := x) (tg := tg) (iter := iter) (ifs := ifs) (scope := scope) (pos := p) o.calm (by rw [o.nm]; exact o.nd)
      (fun i hi => by rw [own_ix]; exact List.contains_iff_mem.mp (List.all_eq_true.mp h2 i hi))
      (hr X W sc (.i tg) it (.e iter) o h5 false) (by rw [o.nm, o.scp]; exact hb)
      (fun s H C' cl fp => p_tg (by rw [o.blk.nm]; exact o.nd) o.blk.calm (fun y hy => loB_of o y hy) t tg (by rw [o.blk.nm]; exact h4))
      (fun s H C' cl fp => hr _ W0 _ .ts c (.l ifs) o.blk h6)
      (fun s H C' cl fp => hr _ W0 _ .v elt (.e x) o.blk h7 true) (fold_of h3)
    rw [own_ix] at key
    exact key
  · cases h
theorem stepT_ok (hr : RcOk tb N Hx T ca C k r) (o : Cok tb N Hx X T ca W C k sc) {e : E} {x : Expr} (h : stepT r sc e x = true) : PT X x (tEt X.K T ca W C e) := by
  unfold stepT at h
  split at h
  · exact t_not (hr X W sc .t _ (.e _) o h)
  · exact PW.pt (hr X W sc .w _ (.e _) o h)
  · obtain ⟨h, h3⟩ := andE h
    obtain ⟨h1, h2⟩ := andE h
    exact t_ite (hr X W sc .t _ (.e _) o h1) (hr X W sc .t _ (.e _) o h2) (hr X W sc .t _ (.e _) o h3)
  · obtain ⟨h, h3⟩ := andE h
    obtain ⟨h, h2⟩ := andE h
    obtain ⟨h1, h0⟩ := andE h
    have e1 := of_decide_eq_true h1
    subst e1
    exact t_cmp o.units (notE h0) (hr X W sc .v _ (.e _) o h2 false) (hr X W sc .v _ (.e _) o h3 false)
  · obtain ⟨h, h5⟩ := andE h
    obtain ⟨h, h4⟩ := andE h
    obtain ⟨h, h3⟩ := andE h
    obtain ⟨h, h2⟩ := andE h
    obtain ⟨h1, h0⟩ := andE h
    have e1 := of_decide_eq_true h1
    have e2 := of_decide_eq_true h0
    subst e1 e2
    exact t_cmp2 o.units (notE h2) (hr X W sc .v _ (.e _) o h3 false) (hr X W sc .v _ (.e _) o h4 false) (hr X W sc .v _ (.e _) o h5 false)
  · obtain ⟨h1, h2⟩ := andE h
    exact t_plain h1 (hr X W sc .v _ (.e _) o h2 false)
theorem pw_any1 {op : BoolOp} {x : Expr} {p : Pos} {t : TT} (h : PT X x t) : PW X (.BoolOp op [x] p) t := by
  cases op with
  | And => exact pw_and1 h
  | Or => exact pw_or1 h
theorem stepW_ok (hr : RcOk tb N Hx T ca C k r) (o : Cok tb N Hx X T ca W C k sc) {e : E} {x : Expr} (h : stepW r sc e x = true) : PW X x (tEt X.K T ca W C e) := by
  unfold stepW at h
  split at h
  · obtain ⟨h1, h2⟩ := andE h
    exact w_and (hr X W sc .t _ (.e _) o h1) (hr X W sc .w _ (.e _) o h2)
  · obtain ⟨h1, h2⟩ := andE h
    exact w_or (hr X W sc .t _ (.e _) o h1) (hr X W sc .w _ (.e _) o h2)
  · exact pw_any1 (hr X W sc .t _ (.e _) o h)
  · cases h
theorem stepA_ok (hr : RcOk tb N Hx T ca C k r) (o : Cok tb N Hx X T ca W C k sc) {e : E} {xs : List Expr} {m : Bool} (h : stepA r sc e xs = true) : PA X xs (tEa X.K T ca W C e m) := by
  unfold stepA at h
  split at h
  · exact a_nil
  · obtain ⟨h, h3⟩ := andE h
    obtain ⟨h1, h2⟩ := andE h
    exact a_cons h1 (hr X W sc .v _ (.e _) o h2 m) (hr X W sc .a _ (.l _) o h3 m)
  · cases h
theorem stepO_ok (hr : RcOk tb N Hx T ca C k r) (o : Cok tb N Hx X T ca W C k sc) {e : E} {x : Option Expr} (h : stepO r sc e x = true) : PO X x (tEo X.K T ca W C e) := by
  unfold stepO at h
  split at h
  · exact o_none
  · rw [← of_decide_eq_true h]; exact o_int
  · obtain ⟨h1, h2⟩ := andE h
    exact o_some (fun d z => by rw [z] at h1; cases h1) (hr X W sc .v _ (.e _) o h2 false)
  · cases h
theorem stepR_ok (hr : RcOk tb N Hx T ca C k r) (o : Cok tb N Hx X T ca W C k sc) {e : E} {x : Expr} (h : stepR tb r sc e x = true) : PRg X x (tEr X.K T ca W C e) := by
  unfold stepR at h
  split at h
  · obtain ⟨h, h4⟩ := andE h
    obtain ⟨h, h3⟩ := andE h
    obtain ⟨h, h2⟩ := andE h
    have e1 := of_decide_eq_true h
    subst e1
    obtain ⟨g1, g2⟩ := o.gb h2
    exact g_rng1 g1 g2 h3 (hr X W sc .v _ (.e _) o h4 false)
  · obtain ⟨h, h6⟩ := andE h
    obtain ⟨h, h5⟩ := andE h
    obtain ⟨h, h4⟩ := andE h
    obtain ⟨h, h3⟩ := andE h
    obtain ⟨h, h2⟩ := andE h
    have e1 := of_decide_eq_true h
    subst e1
    obtain ⟨g1, g2⟩ := o.gb h2
    exact g_rng2 g1 g2 h3 h4 (hr X W sc .v _ (.e _) o h5 false) (hr X W sc .v _ (.e _) o h6 false)
  · cases h
theorem stepI_ok (hr : RcOk tb N Hx T ca C k r) (o : Cok tb N Hx X T ca W C k sc) {e : E} {tg x : Expr} {m : Bool} (h : stepI tb r sc tg e x = true) : PI X tg x (tEi X.K T ca W C e m) := by
  unfold stepI at h
  split at h
  · obtain ⟨h, h4⟩ := andE h
    obtain ⟨h, h3⟩ := andE h
    obtain ⟨h, h2⟩ := andE h
    have e1 := of_decide_eq_true h
    subst e1
    obtain ⟨g1, g2⟩ := o.gb h2
    exact i_rng1 g1 g2 h3 (hr X W sc .v _ (.e _) o h4 false)
  · obtain ⟨h, h6⟩ := andE h
    obtain ⟨h, h5⟩ := andE h
    obtain ⟨h, h4⟩ := andE h
    obtain ⟨h, h3⟩ := andE h
    obtain ⟨h, h2⟩ := andE h
    have e1 := of_decide_eq_true h
    subst e1
    obtain ⟨g1, g2⟩ := o.gb h2
    exact i_rng2 g1 g2 h3 h4 (hr X W sc .v _ (.e _) o h5 false) (hr X W sc .v _ (.e _) o h6 false)
  · obtain ⟨h, h4⟩ := andE h
    obtain ⟨h, h3⟩ := andE h
    obtain ⟨h, h2⟩ := andE h
    obtain ⟨h0, h⟩ := andE h
    have e1 := of_decide_eq_true h
    subst e1
    obtain ⟨g1, g2⟩ := o.gb h2
    cases tg with
    | Tuple es kk p => exact i_enum g1 g2 h3 (hr X W sc .v _ (.e _) o h4 m)
    | _ => cases h0
  · obtain ⟨h, h6⟩ := andE h
    obtain ⟨h, h5⟩ := andE h
    obtain ⟨h, h4⟩ := andE h
    obtain ⟨h, h3⟩ := andE h
    obtain ⟨h, h2⟩ := andE h
    obtain ⟨h0, h⟩ := andE h
    have e1 := of_decide_eq_true h
    subst e1
    obtain ⟨g1, g2⟩ := o.gb h2
    cases tg with
    | Tuple es kk p => exact i_zip g1 g2 h3 h4 (hr X W sc .v _ (.e _) o h5 true) (hr X W sc .v _ (.e _) o h6 true)
    | _ => cases h0
  · exact i_seq (hr X W sc .v _ (.e _) o h m)
theorem stepTs_ok (hr : RcOk tb N Hx T ca C k r) (o : Cok tb N Hx X T ca W C k sc) {e : E} {xs : List Expr} (h : stepTs r sc e xs = true) : PTs X xs (tEt X.K T ca W C e) := by
  unfold stepTs at h
  split at h
  · exact t_yes (T := T) (ca := ca) (C := C) (W := W)
  · exact pts_one (hr X W sc .t _ (.e _) o h)
  · cases h
/-- the rest: what the checker leaves to another -/
def HdOk (tb : Tab) (N : List Str) (Hx : Cx → Prop) (T : List (Addr × Str)) (ca : Nat → Option Addr) (C : Cl) (k : Nat) (hd : Rc → Rc) : Prop :=
  ∀ r X W sc e x, RcOk tb N Hx T ca C k r → Cok tb N Hx X T ca W C k sc → hd r sc .v e (.e x) = true → ∀ m, PE X x (tEv X.K T ca W C e m)
theorem chk_ok {hd : Rc → Rc} (hh : HdOk tb N Hx T ca C k hd) : ∀ n, RcOk tb N Hx T ca C k (chk tb N hd n)
  | 0 => fun X W sc kd e x o h => by rw [chk] at h; cases h
  | n + 1 => fun X W sc kd e x o h => by
    have ih := chk_ok hh n
    unfold chk at h
    split at h
    · intro m
      rcases Bool.or_eq_true_iff.mp h with h | h
      · exact stepV_ok ih o h
      · exact hh _ X W sc _ _ ih o h m
    · exact stepT_ok ih o h
    · exact stepW_ok ih o h
    · exact fun m => stepA_ok ih o h
    · exact stepO_ok ih o h
    · exact stepR_ok ih o h
    · exact fun m => stepI_ok ih o h
    · exact stepTs_ok ih o h
    · cases h
end
end Pv
end
section
set_option linter.all false
set_option maxRecDepth 100000
namespace Pv
open PySem PySem.Spec PySem.SeqAt PyProof.Rows L2 LamX

/-! Pv15: statements: the state of a def's body, what a statement wants -/
section
variable (K : PySem.W.Frag) (T : List (Addr × Str))
/-- within a def's body; F: what the callers have locked; β₀, H₀: the entry -/
structure SR (F : Addr → Prop) (β0 : List Addr) (H0 : Hp) (L : Addr → Prop) (β : List Addr) (ρ : List Sl) (B : Bx) (σ : L2.St) (H : Hp) : Prop where
  se : Se K T L β ρ B σ H
  sub : ∀ a, F a → L a
  own : ∀ (i : Nat) xs a, ρ[i]? = some (.ow xs) → σ[i]? = some (some (.ref a)) → ¬ F a
  inj : ∀ (i j : Nat) xs ys a, ρ[i]? = some (.ow xs) → ρ[j]? = some (.ow ys) → σ[i]? = some (some (.ref a)) → σ[j]? = some (some (.ref a)) → i = j
  new : ∀ a, L a → F a ∨ H0 a = none
  mv : Mv β0 H0 β H
variable (ca : Nat → Option Addr) (W : WX)
def ExS (F : Addr → Prop) (β0 : List Addr) (H0 : Hp) (c : Nat) (w : D) (B' : Bx) : Prop :=
  ∀ a d vw β' H' σ', ca c = some a → Mv β0 H0 β' H' → Bxs K T F β' B' H' → H' d = some (.xd [(("what" : Str), vw)]) → Rp K F β' H' w vw → W (.ref a) (some d) σ' H'
def RtS (F : Addr → Prop) (β0 : List Addr) (H0 : Hp) (Q : VK) (d : D) (fr : Bool) (B' : Bx) : Prop :=
  ∀ v β' H', Mv β0 H0 β' H' → Bxs K T F β' B' H' → Rp K F β' H' d v → (fr = true → Fr K F β' H0 H' d v) → Q v H'
def NxS (F : Addr → Prop) (β0 : List Addr) (H0 : Hp) (L : Addr → Prop) (β : List Addr) (H : Hp) (k : L2.St → Hp → Prop) (ρ' : List Sl) (B' : Bx) : Prop :=
  ∀ L' β' σ' H', SR K T F β0 H0 L' β' ρ' B' σ' H' → Lt L β H L' β' H' → k σ' H'
def OkS (F : Addr → Prop) (β0 : List Addr) (H0 : Hp) (L : Addr → Prop) (β : List Addr) (H : Hp) (o : Out Fl) (U : Ends) : Prop := match o with
  | .ok (.nx ρ') B' => NxS K T F β0 H0 L β H U.nx ρ' B'
  | .ok (.bk ρ') B' => NxS K T F β0 H0 L β H U.bk ρ' B'
  | .ok (.ct ρ') B' => NxS K T F β0 H0 L β H U.ct ρ' B'
  | .ok (.rt d fr) B' => RtS K T F β0 H0 U.rt d fr B'
  | .ex c w B' => ExS K T ca W F β0 H0 c w B'
  | .bad => False
variable (C : Cl)
def tEx (s : S) : TS := fun U σ H => ∃ F β0 H0 L β ρ B, SR K T F β0 H0 L β ρ B σ H ∧ OkS K T ca W F β0 H0 L β H (ex C s ρ B) U
end
section
variable {K : PySem.W.Frag} {T : List (Addr × Str)} {ca : Nat → Option Addr} {W : WX} {C : Cl} {F L L' : Addr → Prop} {β0 β β' : List Addr} {H0 H H' : Hp} {ρ ρ' : List Sl} {B B' : Bx} {σ σ' : L2.St} {U : Ends} {α : Type}
theorem NxS.lt {k : L2.St → Hp → Prop} (h : NxS K T F β0 H0 L β H k ρ B) (l : Lt L β H L' β' H') : NxS K T F β0 H0 L' β' H' k ρ B := fun L2 β2 σ2 H2 s l2 => h L2 β2 σ2 H2 s (l.trans l2)
theorem OkS.lt {o : Out Fl} (h : OkS K T ca W F β0 H0 L β H o U) (l : Lt L β H L' β' H') : OkS K T ca W F β0 H0 L' β' H' o U := by
  cases o with
  | ok f B =>
    cases f with
    | nx ρ => exact NxS.lt h l
    | bk ρ => exact NxS.lt h l
    | ct ρ => exact NxS.lt h l
    | rt d fr => exact h
  | ex c w B => exact h
  | bad => exact h
theorem SR.exw (s : SR K T F β0 H0 L β ρ B σ H) {c : Nat} {w : D} (h : ExS K T ca W F β0 H0 c w B') {σ2 : L2.St} : ExW K T ca W L β H σ2 c w B' :=
  fun a d vw β2 H2 e m b x r => h a d vw β2 H2 σ2 e (s.mv.trans m) (b.less s.sub) x (r.low s.sub)
/-- the outcome of an expression, then the rest of the statement -/
theorem SR.bind (s : SR K T F β0 H0 L β ρ B σ H) {L1 : Addr → Prop} {β1 : List Addr} {H1 : Hp} {o : Out α} {f : α → Bx → Out Fl} (h : OkS K T ca W F β0 H0 L1 β1 H1 (o.bind f) U) :
    Ok K T ca W L β H σ o fun a B => OkS K T ca W F β0 H0 L1 β1 H1 (f a B) U := by
  cases o with
  | ok a B => exact h
  | ex c w B => exact s.exw h
  | bad => exact h
theorem OkS.opt {o : Option α} {f : α → Fl} (h : OkS K T ca W F β0 H0 L β H (Out.opt (o.map f) B) U) : ∃ a, o = some a ∧ OkS K T ca W F β0 H0 L β H (.ok (f a) B) U := by
  cases o with
  | none => exact h.elim
  | some a => exact ⟨a, rfl, h⟩
theorem Mv.lt0 (m : Mv β H β' H') : Lt L β H L β' H' := m.lt fun _ z => .inl z
/-- an expression has run -/
theorem SR.step (s : SR K T F β0 H0 L β ρ B σ H) (m : Mv β H β' H') (S : Se K T L β' ρ B' σ H') : SR K T F β0 H0 L β' ρ B' σ H' :=
  ⟨S, s.sub, s.own, s.inj, s.new, s.mv.trans m⟩
theorem set_ow {i j : Nat} {x : Sl} {xs : List D} (h : (ρ.set i x)[j]? = some (.ow xs)) : (j = i ∧ x = .ow xs ∧ i < ρ.length) ∨ (j ≠ i ∧ ρ[j]? = some (.ow xs)) := by
  by_cases e : i = j
  · subst e
    by_cases hl : i < ρ.length
    · rw [List.getElem?_set_self hl] at h
      exact .inl ⟨rfl, Option.some.inj h, hl⟩
    · rw [List.getElem?_eq_none (by rw [List.length_set]; omega)] at h; cases h
  · rw [List.getElem?_set_ne e] at h
    exact .inr ⟨fun q => e q.symm, h⟩
/-- a slot is given a value -/
theorem SR.setV (s : SR K T F β0 H0 L β ρ B σ H) {i : Nat} {d : D} {v : V} (r : Rp K L β H d v) : SR K T F β0 H0 L β (ρ.set i (.vl d)) B (σ.set i (some v)) H := by
  have old : ∀ {j : Nat} {xs : List D}, (ρ.set i (.vl d))[j]? = some (.ow xs) → j ≠ i ∧ ρ[j]? = some (.ow xs) := fun h => by
    rcases set_ow h with ⟨_, q, _⟩ | q
    · cases q
    · exact q
  refine ⟨(s.se.set r).1, s.sub, fun j xs a h1 h2 => ?_, fun j k xs ys a h1 h2 h3 h4 => ?_, s.new, s.mv⟩
  · obtain ⟨n, h⟩ := old h1
    rw [List.getElem?_set_ne (Ne.symm n)] at h2
    exact s.own j xs a h h2
  · obtain ⟨n1, q1⟩ := old h1
    obtain ⟨n2, q2⟩ := old h2
    rw [List.getElem?_set_ne (Ne.symm n1)] at h3
    rw [List.getElem?_set_ne (Ne.symm n2)] at h4
    exact s.inj j k xs ys a q1 q2 h3 h4
/-- more is locked -/
theorem Bxs.more (b : Bxs K T L β B H) (hn : B.all noLs = true) {p : Addr} {vs : List V} (hp : H p = some (.lst vs)) (nb : p ∉ β) : Bxs K T (fun a => L a ∨ a = p) β B H := by
  have lk : ∀ a, (L a ∨ a = p) → (∃ vs, H a = some (.lst vs)) ∧ a ∉ β := fun a z => by
    rcases z with z | z
    · exact b.lk a z
    · rw [z]; exact ⟨⟨vs, hp⟩, nb⟩
  refine ⟨b.len, b.nd, lk, fun l xs e => ?_, b.tabs⟩
  obtain ⟨a, ws, h1, h2, h3, h4⟩ := b.at_ l xs e
  exact ⟨a, ws, h1, h2, h3, noL_rps (fun a z => (lk a z).1) xs ws (List.all_eq_true.mp hn xs (List.mem_of_getElem? e)) h4⟩
theorem Se.more (S : Se K T L β ρ B σ H) (hn : B.all noLs = true) {p : Addr} {vs : List V} (hp : H p = some (.lst vs)) (nb : p ∉ β) (h : ∀ (d : D) (v : V) (i : Nat), ρ[i]? = some (.vl d) → Rp K L β H d v → σ[i]? = some (some v) → Rp K (fun a => L a ∨ a = p) β H d v)
    (h' : ∀ (xs : List D) (a : Addr) (vs : List V) (i : Nat), ρ[i]? = some (.ow xs) → σ[i]? = some (some (.ref a)) → H a = some (.lst vs) → Rps K L β H xs vs → Rps K (fun a => L a ∨ a = p) β H xs vs) : Se K T (fun a => L a ∨ a = p) β ρ B σ H :=
  ⟨S.bx.more hn hp nb, S.len, fun i d e => by
    obtain ⟨v, h1, h2⟩ := S.vl i d e
    exact ⟨v, h1, h d v i e h2 h1⟩, fun i xs e => by
    obtain ⟨a, vs, h1, h2, h3, h4, h5⟩ := S.ow i xs e
    exact ⟨a, vs, h1, .inl h2, h3, h4, h' xs a vs i e h1 h3 h5⟩⟩
/-- a new list that nothing else names: locked from now on -/
theorem SR.lock (s : SR K T F β0 H0 L β ρ B σ H) (m : Mv β H β' H') (S : Se K T L β' ρ B' σ H') (hn : B'.all noLs = true) {p : Addr} {vs : List V} (h0 : H p = none) (hp : H' p = some (.lst vs)) (nb : p ∉ β') :
    SR K T F β0 H0 (fun a => L a ∨ a = p) β' ρ B' σ H' ∧ Lt L β H (fun a => L a ∨ a = p) β' H' := by
  have lt : Lt L β H (fun a => L a ∨ a = p) β' H' := m.lt fun a z => z.imp id (fun q => by rw [q]; exact h0)
  refine ⟨⟨⟨S.bx.more hn hp nb, S.len, fun i d e => ?_, fun i xs e => ?_⟩, fun a z => .inl (s.sub a z), s.own, s.inj, fun a z => ?_, s.mv.trans m⟩, lt⟩
  · obtain ⟨v, h1, h2⟩ := s.se.vl i d e
    exact ⟨v, h1, h2.lt lt⟩
  · obtain ⟨a, ws, h1, h2, h3, h4, h5⟩ := s.se.ow i xs e
    exact ⟨a, ws, h1, .inl h2, m.keep a _ (s.se.bx.lk a h2).2 h3 lst_tbl, h4, h5.lt lt⟩
  · rcases z with z | z
    · exact s.new a z
    · rw [z]; exact .inr (s.mv.none h0)
/-- a slot is given a list that only it holds -/
theorem SR.setO (s : SR K T F β0 H0 L β ρ B σ H) {i : Nat} {p : Addr} {xs : List D} {vs : List V} (hl : L p) (nF : ¬ F p) (nw : ∀ (j : Nat) ys, j ≠ i → ρ[j]? = some (.ow ys) → σ[j]? ≠ some (some (.ref p))) (hp : H p = some (.lst vs)) (hz : xs.length ≤ sizeLine) (r : Rps K L β H xs vs) :
    SR K T F β0 H0 L β (ρ.set i (.ow xs)) B (σ.set i (some (.ref p))) H := by
  have get : ∀ {j : Nat} {ys : List D} {a : Addr}, (ρ.set i (.ow xs))[j]? = some (.ow ys) → (σ.set i (some (.ref p)))[j]? = some (some (.ref a)) → (j = i ∧ a = p) ∨ (j ≠ i ∧ ρ[j]? = some (.ow ys) ∧ σ[j]? = some (some (.ref a))) := fun {j ys a} h1 h2 => by
    rcases set_ow h1 with ⟨q, _, hl⟩ | ⟨n, q⟩
    · subst q
      rw [List.getElem?_set_self (by rw [← s.se.len]; exact hl)] at h2
      cases h2
      exact .inl ⟨rfl, rfl⟩
    · rw [List.getElem?_set_ne (Ne.symm n)] at h2
      exact .inr ⟨n, q, h2⟩
  refine ⟨⟨s.se.bx, by rw [List.length_set, List.length_set]; exact s.se.len, fun j d e => ?_, fun j ys e => ?_⟩, s.sub, fun j ys a h1 h2 => ?_, fun j k ys zs a h1 h2 h3 h4 => ?_, s.new, s.mv⟩
  · by_cases q : i = j
    · subst q
      by_cases hl : i < ρ.length
      · rw [List.getElem?_set_self hl] at e; cases e
      · rw [List.getElem?_eq_none (by rw [List.length_set]; omega)] at e; cases e
    · rw [List.getElem?_set_ne q] at e
      obtain ⟨v, h1, h2⟩ := s.se.vl j d e
      exact ⟨v, by rw [List.getElem?_set_ne q]; exact h1, h2⟩
  · rcases set_ow e with ⟨q, e2, hlen⟩ | ⟨n, q⟩
    · subst q
      cases e2
      exact ⟨p, vs, by rw [List.getElem?_set_self (by rw [← s.se.len]; exact hlen)], hl, hp, hz, r⟩
    · obtain ⟨a, ws, h1, h2⟩ := s.se.ow j ys q
      exact ⟨a, ws, by rw [List.getElem?_set_ne (Ne.symm n)]; exact h1, h2⟩
  · rcases get h1 h2 with ⟨_, q⟩ | ⟨_, q1, q2⟩
    · rw [q]; exact nF
    · exact s.own j ys a q1 q2
  · rcases get h1 h3 with ⟨e1, q⟩ | ⟨n1, p1, p2⟩
    · rcases get h2 h4 with ⟨e2, _⟩ | ⟨n2, p3, p4⟩
      · rw [e1, e2]
      · rw [q] at p4; exact absurd p4 (nw k zs n2 p3)
    · rcases get h2 h4 with ⟨e2, q⟩ | ⟨n2, p3, p4⟩
      · rw [q] at p2; exact absurd p2 (nw j ys n1 p1)
      · exact s.inj j k ys zs a p1 p3 p2 p4
theorem SR.dead (s : SR K T F β0 H0 L β ρ B σ H) {p : Addr} (h0 : H p = none) : ∀ (j : Nat) ys, ρ[j]? = some (.ow ys) → σ[j]? ≠ some (some (.ref p)) := fun j ys h1 h2 => by
  obtain ⟨a, ws, h3, _, h4, _⟩ := s.se.ow j ys h1
  rw [h2] at h3
  cases h3
  rw [h0] at h4; cases h4
theorem slotOf_cases (o : Bool) (r : R) (B : Bx) : (slotOf o r B = .vl r.1) ∨ (∃ xs, slotOf o r B = .ow xs ∧ r.1 = .list xs ∧ r.2 = true ∧ B.all noLs = true) := by
  unfold slotOf
  split
  · rename_i xs
    split
    · rename_i h
      exact .inr ⟨xs, rfl, rfl, rfl, h⟩
    · exact .inl rfl
  · exact .inl rfl
/-- a value has come and is put into a slot -/
theorem SR.put (s : SR K T F β0 H0 L β ρ B σ H) (m : Mv β H β' H') (S : Se K T L β' ρ B' σ H') {r : R} {v : V} (rp : Rp K L β' H' r.1 v) (fr : r.2 = true → Fr K L β' H H' r.1 v) (o : Bool) (i : Nat) :
    ∃ L', SR K T F β0 H0 L' β' (ρ.set i (slotOf o r B')) B' (σ.set i (some v)) H' ∧ SR K T F β0 H0 L' β' ρ B' σ H' ∧ Lt L β H L' β' H' := by
  rcases slotOf_cases o r B' with e | ⟨xs, e, e1, e2, e3⟩
  · rw [e]
    exact ⟨L, (s.step m S).setV rp, s.step m S, m.lt0⟩
  · rw [e]
    obtain ⟨ys, p, vs, q1, q2, q3, q4, q5, q6⟩ := fr e2
    rw [e1] at q1; cases q1
    subst q2
    have nb : p ∉ β' := fun z => by
      rw [e1, Rp] at rp
      obtain ⟨a, ws, ea, n, _⟩ := rp
      cases ea
      exact n (.inr z)
    obtain ⟨s2, lt⟩ := s.lock m S e3 q3 q4 nb
    refine ⟨_, s2.setO (.inr rfl) (fun z => ?_) (fun j ys _ h => s.dead q3 j ys h) q4 q5 q6, s2, lt⟩
    obtain ⟨⟨ws, e⟩, _⟩ := s.se.bx.lk p (s.sub p z)
    rw [q3] at e; cases e
end
end Pv
end
section
set_option linter.all false
set_option maxRecDepth 100000
namespace Pv
open PySem PySem.Spec PySem.SeqAt PyProof.Rows L2 LamX

/-! Pv16: what each statement's term says, read as the steps of its text -/
section
variable {K : PySem.W.Frag} {T : List (Addr × Str)} {ca : Nat → Option Addr} {W : WX} {C : Cl} {F L L' : Addr → Prop} {β0 β β' : List Addr} {H0 H H' : Hp} {ρ ρ' : List Sl} {B B' : Bx} {σ σ' : L2.St} {U : Ends}
/-- a list that only one slot holds is written -/
theorem SR.write (s : SR K T F β0 H0 L β ρ B σ H) {i : Nat} {xs ys : List D} {p : Addr} {ws : List V} (h1 : ρ[i]? = some (.ow xs)) (h2 : σ[i]? = some (some (.ref p))) (hz : ys.length ≤ sizeLine) (r : Rps K L β H ys ws) :
    SR K T F β0 H0 L β (ρ.set i (.ow ys)) B σ (upd H p (.lst ws)) ∧ Lt L β H L β (upd H p (.lst ws)) := by
  obtain ⟨q, vs, g1, g2, g3, g4, g5⟩ := s.se.ow i xs h1
  rw [h2] at g1; cases g1
  have oth : ∀ c o, c ≠ p → H c = some o → upd H p (.lst ws) c = some o := fun c o n e => by rw [upd_ne n]; exact e
  have mu : Mu L β p := .inl g2
  have lv : ∀ c o, H c = some o → ∃ o', upd H p (.lst ws) c = some o' := fun c o e => by
    by_cases z : c = p
    · rw [z]; exact ⟨_, upd_same⟩
    · exact ⟨o, oth c o z e⟩
  refine ⟨⟨⟨s.se.bx.chg g2 ws, by rw [List.length_set]; exact s.se.len, fun j d e => ?_, fun j zs e => ?_⟩, s.sub, fun j zs a e1 e2 => ?_, fun j k zs us a e1 e2 e3 e4 => ?_, s.new, ⟨s.mv.ext, fun c o hc e ht => ?_, fun c o e => ?_⟩⟩, ⟨fun c o n e _ => oth c o (fun z => n (z ▸ mu)) e, fun a z => .inl z, fun _ _ e => e, lv⟩⟩
  · by_cases z : i = j
    · subst z
      rw [List.getElem?_set] at e
      simp only [if_true] at e
      split at e <;> cases e
    · rw [List.getElem?_set_ne z] at e
      obtain ⟨v, k1, k2⟩ := s.se.vl j d e
      exact ⟨v, k1, k2.chg mu oth⟩
  · rcases set_ow e with ⟨z, e2, _⟩ | ⟨n, e2⟩
    · subst z; cases e2
      exact ⟨p, ws, h2, g2, upd_same, hz, r.chg mu oth⟩
    · obtain ⟨a, us, k1, k2, k3, k4, k5⟩ := s.se.ow j zs e2
      exact ⟨a, us, k1, k2, oth a _ (fun z => n (by rw [z] at k1; exact s.inj j i zs xs p e2 h1 k1 h2)) k3, k4, k5.chg mu oth⟩
  · rcases set_ow e1 with ⟨z, _, _⟩ | ⟨n, e3⟩
    · subst z
      exact s.own j xs a h1 e2
    · exact s.own j zs a e3 e2
  · have g : ∀ {j : Nat} {zs : List D}, (ρ.set i (.ow ys))[j]? = some (.ow zs) → ∃ us, ρ[j]? = some (.ow us) := fun h => by
      rcases set_ow h with ⟨z, _, _⟩ | ⟨_, h⟩
      · exact ⟨xs, z ▸ h1⟩
      · exact ⟨_, h⟩
    obtain ⟨_, q1⟩ := g e1
    obtain ⟨_, q2⟩ := g e2
    exact s.inj j k _ _ a q1 q2 e3 e4
  · refine oth c o (fun z => ?_) (s.mv.keep c o hc e ht)
    rcases s.new p g2 with q | q
    · exact s.own i xs p h1 h2 q
    · rw [z, q] at e; cases e
  · obtain ⟨o', e'⟩ := s.mv.live c o e
    exact lv c o' e'
/-- targets have been bound -/
theorem SR.kp (s : SR K T F β0 H0 L β ρ B σ H) (S : Se K T L β ρ' B σ' H) (k : Kp ρ σ ρ' σ') : SR K T F β0 H0 L β ρ' B σ' H :=
  ⟨S, s.sub, fun i xs a h1 h2 => by
    obtain ⟨k1, k2⟩ := k i xs h1
    exact s.own i xs a k1 (k2 ▸ h2), fun i j xs ys a h1 h2 h3 h4 => by
    obtain ⟨k1, k2⟩ := k i xs h1
    obtain ⟨k3, k4⟩ := k j ys h2
    exact s.inj i j xs ys a k1 k3 (k2 ▸ h3) (k4 ▸ h4), s.new, s.mv⟩
/-- a list that only one slot held may be handed on -/
theorem SR.frz (s : SR K T F β0 H0 L β ρ B σ H) {i : Nat} {xs : List D} (h1 : ρ[i]? = some (.ow xs)) :
    ∃ L', SR K T F β0 H0 L' β (ρ.set i (.vl (.list xs))) B σ H ∧ Lt L β H L' β H := by
  obtain ⟨p, vs, g1, g2, g3, g4, g5⟩ := s.se.ow i xs h1
  have low : ∀ a, (L a ∧ a ≠ p) → L a := fun a z => z.1
  refine ⟨fun a => L a ∧ a ≠ p, ⟨⟨s.se.bx.less low, by rw [List.length_set]; exact s.se.len, fun j d e => ?_, fun j zs e => ?_⟩, fun a z => ⟨s.sub a z, fun q => s.own i xs p h1 g1 (q ▸ z)⟩, fun j zs a e1 e2 => ?_, fun j k zs us a e1 e2 e3 e4 => ?_, fun a z => s.new a z.1, s.mv⟩,
    ⟨fun c o _ e _ => e, fun a z => .inl (z.imp (low a) id), fun _ _ e => e, fun c o e => ⟨o, e⟩⟩⟩
  · by_cases z : i = j
    · subst z
      rw [List.getElem?_set] at e
      simp only [if_true] at e
      split at e
      · cases e
        refine ⟨_, g1, ?_⟩
        rw [Rp]
        exact ⟨p, vs, rfl, fun q => q.elim (fun q => q.2 rfl) (s.se.bx.lk p g2).2, .inl g3, g4, g5.low low⟩
      · cases e
    · rw [List.getElem?_set_ne z] at e
      obtain ⟨v, k1, k2⟩ := s.se.vl j d e
      exact ⟨v, k1, k2.low low⟩
  · rcases set_ow e with ⟨_, e2, _⟩ | ⟨n, e2⟩
    · cases e2
    · obtain ⟨a, us, k1, k2, k3, k4, k5⟩ := s.se.ow j zs e2
      exact ⟨a, us, k1, ⟨k2, fun z => n (by rw [z] at k1; exact s.inj j i zs xs p e2 h1 k1 g1)⟩, k3, k4, k5.low low⟩
  · rcases set_ow e1 with ⟨_, e3, _⟩ | ⟨n, e3⟩
    · cases e3
    · exact s.own j zs a e3 e2
  · rcases set_ow e1 with ⟨_, q, _⟩ | ⟨_, q1⟩
    · cases q
    · rcases set_ow e2 with ⟨_, q, _⟩ | ⟨_, q2⟩
      · cases q
      · exact s.inj j k zs us a q1 q2 e3 e4
/-- a box is written -/
theorem SR.box (s : SR K T F β0 H0 L β ρ B σ H) {l : Nat} {xs ys : List D} {p : Addr} {ws : List V} (h1 : B[l]? = some xs) (h2 : β[l]? = some p) (hz : ys.length ≤ sizeLine) (r : Rps K L β H ys ws) :
    SR K T F β0 H0 L β ρ (B.set l ys) σ (upd H p (.lst ws)) ∧ Lt L β H L β (upd H p (.lst ws)) := by
  have hm : p ∈ β := List.mem_of_getElem? h2
  have oth : ∀ c o, c ≠ p → H c = some o → upd H p (.lst ws) c = some o := fun c o n e => by rw [upd_ne n]; exact e
  have mu : Mu L β p := .inr hm
  have lv : ∀ c o, H c = some o → ∃ o', upd H p (.lst ws) c = some o' := fun c o e => by
    by_cases z : c = p
    · rw [z]; exact ⟨_, upd_same⟩
    · exact ⟨o, oth c o z e⟩
  have bx := s.se.bx
  obtain ⟨p', vs, g1, g2, g3, g4⟩ := bx.at_ l xs h1
  rw [h2] at g1; cases g1
  refine ⟨⟨⟨⟨by rw [List.length_set]; exact bx.len, bx.nd, fun a z => ?_, fun k zs e => ?_, fun q hq => ?_⟩, s.se.len, fun j d e => ?_, fun j zs e => ?_⟩, s.sub, s.own, s.inj, s.new, ⟨s.mv.ext, fun c o hc e ht => ?_, fun c o e => ?_⟩⟩, ⟨fun c o n e _ => oth c o (fun z => n (z ▸ mu)) e, fun a z => .inl z, fun _ _ e => e, lv⟩⟩
  · obtain ⟨⟨us, e⟩, n⟩ := bx.lk a z
    exact ⟨⟨us, oth a _ (fun q => n (q ▸ hm)) e⟩, n⟩
  · by_cases z : l = k
    · subst z
      rw [List.getElem?_set] at e
      simp only [if_true] at e
      split at e
      · cases e
        exact ⟨p, ws, h2, upd_same, hz, r.chg mu oth⟩
      · cases e
    · rw [List.getElem?_set_ne z] at e
      obtain ⟨a, us, k1, k2, k3, k4⟩ := bx.at_ k zs e
      refine ⟨a, us, k1, oth a _ (fun q => z ?_) k2, k3, k4.chg mu oth⟩
      rw [q] at k1
      have hl : l < β.length := (List.getElem?_eq_some_iff.mp h2).1
      exact (List.getElem?_inj hl bx.nd).mp (h2.trans k1.symm)
  · obtain ⟨ps, k1, k2, k3⟩ := bx.tabs q hq
    refine ⟨ps, oth _ _ (fun z => by rw [z, g2] at k1; cases k1) k1, k2, fun pos cv hc => ?_⟩
    obtain ⟨c, e1, e2⟩ := k3 pos cv hc
    exact ⟨c, e1, oth _ _ (fun z => by rw [z, g2] at e2; cases e2) e2⟩
  · obtain ⟨v, k1, k2⟩ := s.se.vl j d e
    exact ⟨v, k1, k2.chg mu oth⟩
  · obtain ⟨a, us, k1, k2, k3, k4, k5⟩ := s.se.ow j zs e
    exact ⟨a, us, k1, k2, oth a _ (fun q => (bx.lk a k2).2 (q ▸ hm)) k3, k4, k5.chg mu oth⟩
  · refine oth c o (fun z => ?_) (s.mv.keep c o hc e ht)
    obtain ⟨n, e1, e2⟩ := s.mv.ext
    rw [e1] at hm
    rcases List.mem_append.mp hm with q | q
    · exact hc (z ▸ q)
    · rw [z, e2 p q] at e; cases e
  · obtain ⟨o', e'⟩ := s.mv.live c o e
    exact lv c o' e'
theorem SR.here (s : SR K T F β0 H0 L β ρ B σ H) {k : L2.St → Hp → Prop} (h : NxS K T F β0 H0 L β H k ρ B) : k σ H := h L β σ H s Lt.refl

/-! ### readings -/
theorem rd_nop (h : tEx K T ca W C .nop U σ H) : U.nx σ H := by
  obtain ⟨F, β0, H0, L, β, ρ, B, s, h⟩ := h
  exact s.here h
theorem rd_seq {a b : S} (h : tEx K T ca W C (.seq a b) U σ H) : tEx K T ca W C a { U with nx := tEx K T ca W C b U } σ H := by
  obtain ⟨F, β0, H0, L, β, ρ, B, s, h⟩ := h
  refine ⟨F, β0, H0, L, β, ρ, B, s, ?_⟩
  have h : OkS K T ca W F β0 H0 L β H ((ex C a ρ B).bind fun f B => match f with
    | .nx ρ => ex C b ρ B
    | f => .ok f B) U := h
  cases e : ex C a ρ B with
  | ok f B1 =>
    rw [e] at h
    cases f with
    | nx ρ1 => exact fun L' β' σ' H' s' l' => ⟨F, β0, H0, L', β', ρ1, B1, s', OkS.lt h l'⟩
    | bk ρ1 => exact h
    | ct ρ1 => exact h
    | rt d fr => exact h
  | ex c w B1 => rw [e] at h; exact h
  | bad => rw [e] at h; exact h
theorem rd_ex {e : E} (h : tEx K T ca W C (.ex e) U σ H) : tEv K T ca W C e false σ H fun _ H1 => U.nx σ H1 := by
  obtain ⟨F, β0, H0, L, β, ρ, B, s, h⟩ := h
  exact step1 s.se (s.bind h) fun r B1 v β1 H1 p m1 S1 rb rp fr => p L β1 σ H1 (s.step m1 S1) m1.lt0
theorem rd_set {o : Bool} {i : Nat} {e : E} (h : tEx K T ca W C (.set o i e) U σ H) : tEv K T ca W C e true σ H fun v H1 => U.nx (σ.set i (some v)) H1 := by
  obtain ⟨F, β0, H0, L, β, ρ, B, s, h⟩ := h
  refine step1 s.se (s.bind h) fun r B1 v β1 H1 p m1 S1 rb rp fr => ?_
  obtain ⟨L2, s2, _, lt⟩ := s.put m1 S1 (rp rfl) fr o i
  exact p L2 β1 _ H1 s2 lt
theorem tBt_of {t : Tg} {d : D} {v : V} {k : L2.St → Hp → Prop} (s : SR K T F β0 H0 L β ρ B σ H) (r : Rp K L β H d v) (hb : bindT t d ρ = some ρ') (h : NxS K T F β0 H0 L β H k ρ' B) : tBt K T t v σ H k :=
  ⟨L, β, ρ, B, d, ρ', s.se, r, hb, fun σ2 S2 kp _ _ => h L β σ2 H (s.kp S2 kp) Lt.refl⟩
theorem rd_unp {t : Tg} {e : E} (h : tEx K T ca W C (.unp t e) U σ H) : tEv K T ca W C e true σ H fun v H1 => tBt K T t v σ H1 U.nx := by
  obtain ⟨F, β0, H0, L, β, ρ, B, s, h⟩ := h
  refine step1 s.se (s.bind h) fun r B1 v β1 H1 p m1 S1 rb rp fr => ?_
  obtain ⟨ρ', hb, p⟩ := p.opt
  exact tBt_of (s.step m1 S1) (rp rfl) hb (NxS.lt p m1.lt0)
theorem rd_ret {e : E} (hv : ∀ i, e ≠ .v i) (h : tEx K T ca W C (.ret e) U σ H) : tEv K T ca W C e true σ H U.rt := by
  obtain ⟨F, β0, H0, L, β, ρ, B, s, h⟩ := h
  have h : OkS K T ca W F β0 H0 L β H ((ev C e true ρ B).bind fun r B => .ok (.rt r.1 r.2) B) U := by
    cases e <;> first | exact h | exact absurd rfl (hv _)
  refine step1 s.se (s.bind h) fun r B1 v β1 H1 p m1 S1 rb rp fr => p v β1 H1 (s.mv.trans m1) (S1.bx.less s.sub) ((rp rfl).low s.sub) fun z => ?_
  obtain ⟨xs, a, vs, q1, q2, q3, q4, q5, q6⟩ := fr z
  exact ⟨xs, a, vs, q1, q2, s.mv.none q3, q4, q5, q6.low fun b (q : F b ∨ b = a) => q.imp (s.sub b) id⟩
theorem rd_retv {i : Nat} (h : tEx K T ca W C (.ret (.v i)) U σ H) : tVar i σ H U.rt := by
  obtain ⟨F, β0, H0, L, β, ρ, B, s, h⟩ := h
  have h : OkS K T ca W F β0 H0 L β H (match ρ[i]? with
    | some (.vl d) => .ok (.rt d false) B
    | some (.ow xs) => .ok (.rt (.list xs) true) B
    | _ => .bad) U := h
  split at h
  · rename_i d e
    obtain ⟨v, h1, h2⟩ := s.se.vl i d e
    exact ⟨v, h1, h v β H s.mv (s.se.bx.less s.sub) (h2.low s.sub) fun z => nomatch z⟩
  · rename_i xs e
    obtain ⟨p, vs, g1, g2, g3, g4, g5⟩ := s.se.ow i xs e
    have nF : ¬ F p := s.own i xs p e g1
    refine ⟨.ref p, g1, h (.ref p) β H s.mv (s.se.bx.less s.sub) ?_ fun _ => ⟨xs, p, vs, rfl, rfl, (s.new p g2).resolve_left nF, g3, g4, g5.low fun b (q : F b ∨ b = p) => q.elim (s.sub b) (fun q => by rw [q]; exact g2)⟩⟩
    rw [Rp]
    exact ⟨p, vs, rfl, fun q => q.elim nF (s.se.bx.lk p g2).2, .inl g3, g4, g5.low s.sub⟩
  · exact h.elim
theorem rd_retN (h : tEx K T ca W C .retN U σ H) : U.rt .non H := by
  obtain ⟨F, β0, H0, L, β, ρ, B, s, h⟩ := h
  exact h .non β H s.mv (s.se.bx.less s.sub) (by rw [Rp]) fun z => nomatch z
theorem rd_brk (h : tEx K T ca W C .brk U σ H) : U.bk σ H := by
  obtain ⟨F, β0, H0, L, β, ρ, B, s, h⟩ := h
  exact s.here h
theorem rd_cont (h : tEx K T ca W C .cont U σ H) : U.ct σ H := by
  obtain ⟨F, β0, H0, L, β, ρ, B, s, h⟩ := h
  exact s.here h
theorem rd_if {c : E} {a b : S} (h : tEx K T ca W C (.iff c a b) U σ H) : tEt K T ca W C c σ H fun k H1 => if k = true then tEx K T ca W C a U σ H1 else tEx K T ca W C b U σ H1 := by
  obtain ⟨F, β0, H0, L, β, ρ, B, s, h⟩ := h
  refine step1t s.se (s.bind h) (fun r B1 p => ?_) fun r B1 k β1 H1 p hk m1 S1 => ?_
  · cases ht : truth r.1 with
    | none => rw [ht] at p; exact p.elim
    | some k => exact ⟨k, rfl⟩
  · rw [hk] at p
    cases k with
    | true => exact ⟨F, β0, H0, L, β1, ρ, B1, s.step m1 S1, OkS.lt p m1.lt0⟩
    | false => exact ⟨F, β0, H0, L, β1, ρ, B1, s.step m1 S1, OkS.lt p m1.lt0⟩
/-- a pseudo-statement: the text has nothing there -/
theorem rd_frz {i : Nat} (h : tEx K T ca W C (.frz i) U σ H) : U.nx σ H := by
  obtain ⟨F, β0, H0, L, β, ρ, B, s, h⟩ := h
  have h : OkS K T ca W F β0 H0 L β H (match ρ[i]? with
    | some (.ow xs) => .ok (.nx (ρ.set i (.vl (.list xs)))) B
    | _ => .ok (.nx ρ) B) U := h
  split at h
  · rename_i xs e
    obtain ⟨L2, s2, lt⟩ := s.frz e
    exact h L2 β σ H s2 lt
  · exact s.here h
theorem rd_app {i : Nat} {e : E} (h : tEx K T ca W C (.app i e) U σ H) : tVar i σ H fun x H1 => tyV K "list" x H1 ∧ tEv K T ca W C e true σ H1 fun w H2 => rAppend x [w] H2 fun _ H3 => U.nx σ H3 := by
  obtain ⟨F, β0, H0, L, β, ρ, B, s, h⟩ := h
  have h : OkS K T ca W F β0 H0 L β H (match ρ[i]? with
    | some (.ow xs) => (ev C e true ρ B).bind fun r B => if xs.length < 16777216 then .ok (.nx (ρ.set i (.ow (xs ++ [r.1])))) B else .bad
    | _ => .bad) U := h
  split at h
  · rename_i xs e
    obtain ⟨p, vs, g1, g2, g3, g4, g5⟩ := s.se.ow i xs e
    refine ⟨.ref p, g1, .inl ⟨rfl, vs, .inl (.inl g3)⟩, ?_⟩
    refine step1 s.se (s.bind h) fun r B1 v β1 H1 p1 m1 S1 rb rp fr => ?_
    split at p1
    · rename_i hlt
      have g3' := m1.keep p _ (s.se.bx.lk p g2).2 g3 lst_tbl
      have g5' := g5.mv m1
      have l1 := g5'.length
      refine ⟨p, vs, v, rfl, rfl, g3', by rw [l1, ← sl24]; exact hlt, ?_⟩
      obtain ⟨s2, lt⟩ := (s.step m1 S1).write (ys := xs ++ [r.1]) (ws := vs ++ [v]) e g1 (by rw [List.length_append, List.length_singleton, ← sl24]; omega) (g5'.append (.cons (rp rfl) .nil))
      exact p1 L β1 σ _ s2 (m1.lt0.trans lt)
    · exact p1.elim
  · exact h.elim
theorem rd_ext {i : Nat} {e : E} (h : tEx K T ca W C (.ext i e) U σ H) : tVar i σ H fun x H1 => tyV K "list" x H1 ∧ tEv K T ca W C e true σ H1 fun w H2 => rExtend x [w] H2 fun _ H3 => U.nx σ H3 := by
  obtain ⟨F, β0, H0, L, β, ρ, B, s, h⟩ := h
  have h : OkS K T ca W F β0 H0 L β H (match ρ[i]? with
    | some (.ow xs) => (ev C e true ρ B).bind fun r B => match r with
      | (.list ys, true) => if xs.length + ys.length ≤ 16777216 then .ok (.nx (ρ.set i (.ow (xs ++ ys)))) B else .bad
      | _ => .bad
    | _ => .bad) U := h
  split at h
  · rename_i xs e
    obtain ⟨p, vs, g1, g2, g3, g4, g5⟩ := s.se.ow i xs e
    refine ⟨.ref p, g1, .inl ⟨rfl, vs, .inl (.inl g3)⟩, ?_⟩
    refine step1 s.se (s.bind h) fun r B1 v β1 H1 p1 m1 S1 rb rp fr => ?_
    split at p1
    · rename_i ys
      split at p1
      · rename_i hle
        obtain ⟨zs, a, us, q1, q2, q3, q4, q5, q6⟩ := fr rfl
        cases q1
        subst q2
        have g3' := m1.keep p _ (s.se.bx.lk p g2).2 g3 lst_tbl
        have g5' := g5.mv m1
        have l1 := g5'.length
        have l2 := q6.length
        refine ⟨p, a, vs, us, rfl, rfl, g3', q4, by rw [l1, l2, ← sl24]; exact hle, ?_⟩
        obtain ⟨s2, lt⟩ := (s.step m1 S1).write (ys := xs ++ ys) (ws := vs ++ us) e g1 (by rw [List.length_append, ← sl24]; exact hle) (g5'.append (q6.low fun b z => .inl z))
        exact p1 L β1 σ _ s2 (m1.lt0.trans lt)
      · exact p1.elim
    · exact p1.elim
  · exact h.elim
theorem Rps.dropLast {ds : List D} {vs : List V} (h : Rps K L β H ds vs) : Rps K L β H ds.dropLast vs.dropLast := by
  rw [List.dropLast_eq_take, List.dropLast_eq_take, h.length]
  exact h.take _
theorem rd_popT {i : Nat} {t : Tg} (h : tEx K T ca W C (.popT t i) U σ H) : tVar i σ H fun x H1 => tyV K "list" x H1 ∧ rPop x [] H1 fun y H2 => tBt K T t y σ H2 U.nx := by
  obtain ⟨F, β0, H0, L, β, ρ, B, s, h⟩ := h
  have h : OkS K T ca W F β0 H0 L β H (match ρ[i]? with
    | some (.ow xs) => match xs.getLast? with
      | some d => Out.opt ((bindT t d (ρ.set i (.ow xs.dropLast))).map .nx) B
      | none => .bad
    | _ => .bad) U := h
  split at h
  · rename_i xs e
    obtain ⟨p, vs, g1, g2, g3, g4, g5⟩ := s.se.ow i xs e
    refine ⟨.ref p, g1, .inl ⟨rfl, vs, .inl (.inl g3)⟩, ?_⟩
    split at h
    · rename_i d hd
      obtain ⟨ρ', hb, h⟩ := h.opt
      have l1 := g5.length
      rw [List.getLast?_eq_getElem?] at hd
      obtain ⟨v, hv, rv⟩ := g5.get hd
      refine ⟨p, vs, v, rfl, rfl, g3, by rw [l1]; exact hv, ?_⟩
      obtain ⟨s2, lt⟩ := s.write (ys := xs.dropLast) (ws := vs.dropLast) e g1 (by rw [List.length_dropLast]; omega) g5.dropLast
      exact tBt_of s2 (rv.lt lt) hb (NxS.lt h lt)
    · exact h.elim
  · exact h.elim
theorem rd_sub {o ix e : E} (h : tEx K T ca W C (.sub o ix e) U σ H) : tEv K T ca W C e true σ H fun z H1 => tEv K T ca W C o true σ H1 fun x H2 => tEv K T ca W C ix true σ H2 fun y H3 => rSetL x y z H3 fun H4 => U.nx σ H4 := by
  obtain ⟨F, β0, H0, L, β, ρ, B, s, h⟩ := h
  refine step1 s.se (s.bind h) fun r B1 v β1 H1 p m1 S1 rb rp fr => ?_
  have s1 := s.step m1 S1
  refine step1 s1.se (s1.bind (OkS.lt p m1.lt0)) fun r2 B2 v2 β2 H2 p2 m2 S2 rb2 rp2 fr2 => ?_
  have s2 := s1.step m2 S2
  refine step1 s2.se (s2.bind (OkS.lt p2 m2.lt0)) fun r3 B3 v3 β3 H3 p3 m3 S3 rb3 rp3 fr3 => ?_
  have s3 := s2.step m3 S3
  split at p3
  · rename_i l n h1 h2
    split at p3
    · rename_i xs hx
      split at p3
      · rename_i hi
        have ra := (rp2 rfl).mv m3
        have hr : ∃ a, β3[l]? = some a ∧ v2 = .ref a := by
          cases hd : r2.1 with
          | dict kvs =>
            rw [hd, Rp] at ra
            rw [hd] at h1
            obtain ⟨l', a, q1, q2, q3⟩ := ra
            rw [h1] at q1; cases q1
            exact ⟨a, q2, q3⟩
          | _ => rw [hd] at h1; cases h1
        obtain ⟨a, ha, hv⟩ := hr
        obtain ⟨a', ws, q1, q2, q3, q4⟩ := S3.bx.at_ l xs hx
        rw [ha] at q1; cases q1
        have l1 := q4.length
        have e3 : v3 = .int n := by
          have := rp3 rfl
          rw [h2, Rp] at this
          exact this
        have rz := ((rp rfl).mv m2).mv m3
        obtain ⟨s4, lt⟩ := s3.box (ys := xs.set n.toNat r.1) (ws := ws.set n.toNat v) hx ha (by rw [List.length_set]; exact q3) (q4.set rz n.toNat)
        refine ⟨a, ws, n, n.toNat, hv, e3, q2, ?_, ?_⟩
        · unfold ixN
          rw [if_pos hi.1, if_pos (by rw [l1]; have := hi.2; omega)]
        · exact p3 L β3 σ _ s4 (m3.lt0.trans lt)
      · exact p3.elim
    · exact p3.elim
  · exact p3.elim
theorem rd_put {i : Nat} {ix e : E} (h : tEx K T ca W C (.put i ix e) U σ H) : tEv K T ca W C e true σ H fun z H1 => tVar i σ H1 fun x H2 => tEv K T ca W C ix true σ H2 fun y H3 => rSetL x y z H3 fun H4 => U.nx σ H4 := by
  obtain ⟨F, β0, H0, L, β, ρ, B, s, h⟩ := h
  refine step1 s.se (s.bind h) fun r B1 v β1 H1 p m1 S1 rb rp fr => ?_
  have s1 := s.step m1 S1
  split at p
  · rename_i xs e
    obtain ⟨pa, vs, g1, g2, g3, g4, g5⟩ := s1.se.ow i xs e
    refine ⟨.ref pa, g1, ?_⟩
    refine step1 s1.se (s1.bind (OkS.lt p m1.lt0)) fun r3 B3 v3 β3 H3 p3 m3 S3 rb3 rp3 fr3 => ?_
    have s3 := s1.step m3 S3
    split at p3
    · rename_i n hn
      split at p3
      · rename_i hi
        have g3' := m3.keep pa _ (s1.se.bx.lk pa g2).2 g3 lst_tbl
        have g5' := g5.mv m3
        have l1 := g5'.length
        have e3 : v3 = .int n := by
          have := rp3 rfl
          rw [hn, Rp] at this
          exact this
        have rz := (rp rfl).mv m3
        obtain ⟨s4, lt⟩ := s3.write (ys := xs.set n.toNat r.1) (ws := vs.set n.toNat v) e g1 (by rw [List.length_set]; exact g4) (g5'.set rz n.toNat)
        refine ⟨pa, vs, n, n.toNat, rfl, e3, g3', ?_, ?_⟩
        · unfold ixN
          rw [if_pos hi.1, if_pos (by rw [l1]; have := hi.2; omega)]
        · exact p3 L β3 σ _ s4 (m3.lt0.trans lt)
      · exact p3.elim
    · exact p3.elim
  · exact p.elim
end
end Pv
end
section
set_option linter.all false
set_option maxRecDepth 100000
namespace Pv
open PySem PySem.Spec PySem.SeqAt PyProof.Rows L2 LamX

/-! Pv17: loops, pairs, raise -/
section
variable {K : PySem.W.Frag} {T : List (Addr × Str)} {ca : Nat → Option Addr} {W : WX} {C : Cl} {F L L' : Addr → Prop} {β0 β β' : List Addr} {H0 H H' : Hp} {ρ ρ' : List Sl} {B B' : Bx} {σ σ' : L2.St} {U : Ends}
theorem rd_par {o p : Bool} {i j : Nat} {a b : E} (h : tEx K T ca W C (.par o p i j a b) U σ H) : tEv K T ca W C a true σ H fun v H1 => tEv K T ca W C b true σ H1 fun w H2 => U.nx ((σ.set i (some v)).set j (some w)) H2 := by
  obtain ⟨F, β0, H0, L, β, ρ, B, s, h⟩ := h
  refine step1 s.se (s.bind h) fun r B1 v β1 H1 p1 m1 S1 rb rp fr => ?_
  obtain ⟨L1, sa, s1, lt1⟩ := s.put m1 S1 (rp rfl) fr o i
  refine step1 s1.se (s1.bind (OkS.lt p1 lt1)) fun r2 B2 w β2 H2 p2 m2 S2 rb2 rp2 fr2 => ?_
  obtain ⟨L2, sb, _, lt2⟩ := sa.put m2 (sa.se.mv m2 S2.bx) (rp2 rfl) fr2 p j
  exact p2 L2 β2 _ H2 sb lt2
/-- .. by a tuple that is taken apart again -/
theorem rd_par2 {o p : Bool} {i j : Nat} {a b : E} (h : tEx K T ca W C (.par o p i j a b) U σ H) : tTup (tCons (tEv K T ca W C a true) (tCons (tEv K T ca W C b true) tNil)) σ H fun z H1 => gTup K 2 (gCons (gName i) (gCons (gName j) gNil)) z σ H1 U.nx := by
  obtain ⟨F, β0, H0, L, β, ρ, B, s, h⟩ := h
  refine step1 s.se (s.bind h) fun r B1 v β1 H1 p1 m1 S1 rb rp fr => ?_
  obtain ⟨L1, sa, s1, lt1⟩ := s.put m1 S1 (rp rfl) fr o i
  refine step1 s1.se (s1.bind (OkS.lt p1 lt1)) fun r2 B2 w β2 H2 p2 m2 S2 rb2 rp2 fr2 => ?_
  obtain ⟨L2, sb, _, lt2⟩ := sa.put m2 (sa.se.mv m2 S2.bx) (rp2 rfl) fr2 p j
  refine ⟨by show 2 ≤ sizeLine; decide, fun q hq => ?_⟩
  have m3 : Mv β2 H2 β2 (upd H2 q (.tup [v, w])) := Mv.of (keep_upd hq)
  have s3 := sb.step m3 (sb.se.mv m3 (same_bxs (keep_upd hq) sb.se.bx))
  exact ⟨q, [v, w], rfl, .inl (.inl upd_same), rfl, v, [w], rfl, w, [], rfl, rfl, p2 L2 β2 _ _ s3 (lt2.trans m3.lt0)⟩
theorem rd_appPop {i j : Nat} {e : E} (h : tEx K T ca W C (.appPop i j e) U σ H) : tVar i σ H fun x H1 => tyV K "list" x H1 ∧ tVar j σ H1 fun y H2 => tyV K "list" y H2 ∧ tEv K T ca W C e true σ H2 fun w H3 => rPopAt y [w] H3 fun z H4 => rAppend x [z] H4 fun _ H5 => U.nx σ H5 := by
  obtain ⟨F, β0, H0, L, β, ρ, B, s, h⟩ := h
  have h : OkS K T ca W F β0 H0 L β H (match ρ[i]?, ρ[j]? with
    | some (.ow xs), some (.ow ys) => if i = j then .bad else (ev C e true ρ B).bind fun r B => match r.1 with
      | .int n => if xs.length < 16777216 ∧ 0 ≤ n ∧ n < 2 ^ 62 then match ys[n.toNat]? with
        | some d => .ok (.nx ((ρ.set j (.ow (ys.eraseIdx n.toNat))).set i (.ow (xs ++ [d])))) B
        | none => .bad
        else .bad
      | _ => .bad
    | _, _ => .bad) U := h
  split at h
  · rename_i xs ys e1 e2
    split at h
    · exact h.elim
    · rename_i hij
      obtain ⟨p, vs, g1, g2, g3, g4, g5⟩ := s.se.ow i xs e1
      obtain ⟨q, ws, k1, k2, k3, k4, k5⟩ := s.se.ow j ys e2
      refine ⟨.ref p, g1, .inl ⟨rfl, vs, .inl (.inl g3)⟩, .ref q, k1, .inl ⟨rfl, ws, .inl (.inl k3)⟩, ?_⟩
      refine step1 s.se (s.bind h) fun r B1 v β1 H1 p1 m1 S1 rb rp fr => ?_
      split at p1
      · rename_i n hn
        split at p1
        · rename_i hc
          split at p1
          · rename_i d hd
            have s1 := s.step m1 S1
            have hv : v = .int n := by
              have := rp rfl
              rw [hn, Rp] at this
              exact this
            have g3' := m1.keep p _ (s.se.bx.lk p g2).2 g3 lst_tbl
            have k3' := m1.keep q _ (s.se.bx.lk q k2).2 k3 lst_tbl
            have g5' := g5.mv m1
            have k5' := k5.mv m1
            obtain ⟨y, hy, ry⟩ := k5'.get hd
            have hl : n.toNat < ws.length := (List.getElem?_eq_some_iff.mp hy).1
            have hpq : p ≠ q := fun z => hij (s.inj i j xs ys p e1 e2 g1 (by rw [z]; exact k1))
            obtain ⟨s2, lt2⟩ := s1.write (ys := ys.eraseIdx n.toNat) (ws := ws.eraseIdx n.toNat) e2 k1 (by have := len_erase ys n.toNat; omega) (k5'.erase n.toNat)
            have oth : ∀ c o, c ≠ q → H1 c = some o → upd H1 q (.lst (ws.eraseIdx n.toNat)) c = some o := fun c o n e => by rw [upd_ne n]; exact e
            have mu : Mu L β1 q := .inl k2
            have e1' : (ρ.set j (.ow (ys.eraseIdx n.toNat)))[i]? = some (.ow xs) := by rw [List.getElem?_set_ne (Ne.symm hij)]; exact e1
            have l1 := g5'.length
            obtain ⟨s3, lt3⟩ := s2.write (ys := xs ++ [d]) (ws := vs ++ [y]) e1' g1 (by rw [List.length_append, List.length_singleton, ← sl24]; have := hc.1; omega) ((g5'.append (.cons ry .nil)).chg mu oth)
            refine ⟨q, ws, n, n.toNat, y, rfl, by rw [hv], k3', by have := hc.2.1; omega, by have := hc.2.2; omega, ?_, hy, ?_⟩
            · have q0 : ixN ws.length n = some n.toNat := by
                unfold ixN
                rw [if_pos hc.2.1, if_pos (by have := hc.2.1; omega)]
              exact (ixN_seq q0).1
            · refine ⟨p, vs, y, rfl, rfl, oth p _ hpq g3', by rw [l1, ← sl24]; exact hc.1, ?_⟩
              exact p1 L β1 σ _ s3 ((m1.lt0.trans lt2).trans lt3)
          · exact p1.elim
        · exact p1.elim
      · exact p1.elim
  · exact h.elim
/-- one turn of a for -/
def forF (C : Cl) (t : Tg) (b : S) : D → List Sl → Bx → Out Fl := fun d ρ B => match bindT t d ρ with
  | some ρ => ex C b ρ B
  | none => .bad
theorem rd_for {t : Tg} {it : E} {b : S} (h : tEx K T ca W C (.for t it b) U σ H) : tEi K T ca W C it true σ H fun J H1 => ∃ V : Nat → Nat → L2.St → Hp → Prop, (∃ m, V 0 m σ H1) ∧ ∀ i m σ H, V i m σ H →
    (J.stop i H ∧ U.nx σ H) ∨ (J.go i H ∧ ∃ N : L2.St → Hp → Prop, (∀ σ' H', N σ' H' → ∃ m', m' < m ∧ V (i + 1) m' σ' H') ∧ ∀ x H', J.yld i H x H' → tBt K T t x σ H' fun σ2 H2 => tEx K T ca W C b { U with nx := N, ct := N, bk := U.nx } σ2 H2) := by
  obtain ⟨F, β0, H0, L, β, ρ, B, s, h⟩ := h
  have h : OkS K T ca W F β0 H0 L β H ((ev C it true ρ B).bind fun x B => match itemsOf x.1 with
    | some xs => forL (forF C t b) xs ρ B
    | none => .bad) U := h
  refine ⟨L, β, ρ, B, s.se, (s.bind h).imp fun r B1 _ p => ?_⟩
  cases hx : itemsOf r.1 with
  | none => rw [hx] at p; exact p.elim
  | some xs =>
    rw [hx] at p
    simp only at p
    refine ⟨xs, rfl, fun J β1 H1 m1 b1 hz src => ?_⟩
    obtain ⟨G, Y, w, hsrc⟩ := src
    have s1 := s.step m1 (s.se.mv m1 b1)
    refine for_it w (fun i σ' H' => ∃ L2 β2 ρ2 B2, SR K T F β0 H0 L2 β2 ρ2 B2 σ' H' ∧ Lt L β1 H1 L2 β2 H' ∧ OkS K T ca W F β0 H0 L2 β2 H' (forL (forF C t b) (xs.drop i) ρ2 B2) U)
      ⟨L, β1, ρ, B1, s1, Lt.refl, OkS.lt p m1.lt0⟩ ?_ ?_ ?_
    · rintro i σ2 H2 hi ⟨L2, β2, ρ2, B2, s2, l2, p2⟩
      exact (hsrc L2 β2 H2 ⟨l2, fun z => nomatch z⟩ s2.se.bx.live).1
    · rintro i x σ2 H2 H3 hi ⟨L2, β2, ρ2, B2, s2, l2, p2⟩ hy
      obtain ⟨same, d, hd, rp⟩ := (hsrc L2 β2 H2 ⟨l2, fun z => nomatch z⟩ s2.se.bx.live).2 i x H3 hi hy
      have m3 : Mv β2 H2 β2 H3 := Mv.of same
      have s3 := s2.step m3 (s2.se.mv m3 (same_bxs same s2.se.bx))
      have l3 := l2.trans (m3.lt0 (L := L2))
      have p3 := OkS.lt p2 (m3.lt0 (L := L2))
      have hdrop : xs.drop i = d :: xs.drop (i + 1) := by
        rw [List.drop_eq_getElem_cons hi]
        have : xs[i]? = some xs[i] := by simp [hi]
        rw [this] at hd
        cases hd
        rfl
      rw [hdrop] at p3
      have p3 : OkS K T ca W F β0 H0 L2 β2 H3 ((forF C t b d ρ2 B2).bind fun o B => match o with
        | .nx ρ => forL (forF C t b) (xs.drop (i + 1)) ρ B
        | .ct ρ => forL (forF C t b) (xs.drop (i + 1)) ρ B
        | .bk ρ => .ok (.nx ρ) B
        | .rt d fr => .ok (.rt d fr) B) U := p3
      cases hb : bindT t d ρ2 with
      | none =>
        have e : forF C t b d ρ2 B2 = .bad := by unfold forF; rw [hb]
        rw [e] at p3
        exact p3.elim
      | some ρ3 =>
        have e : forF C t b d ρ2 B2 = ex C b ρ3 B2 := by unfold forF; rw [hb]
        rw [e] at p3
        refine ⟨L2, β2, ρ2, B2, d, ρ3, s3.se, rp, hb, fun σ3 S3 kp _ _ => ⟨F, β0, H0, L2, β2, ρ3, B2, s3.kp S3 kp, ?_⟩⟩
        cases ho : ex C b ρ3 B2 with
        | ok f B4 =>
          rw [ho] at p3
          cases f with
          | nx ρ4 => exact fun L' β' σ' H' s' l' => ⟨L', β', ρ4, B4, s', l3.trans l', OkS.lt p3 l'⟩
          | ct ρ4 => exact fun L' β' σ' H' s' l' => ⟨L', β', ρ4, B4, s', l3.trans l', OkS.lt p3 l'⟩
          | bk ρ4 => exact p3
          | rt d fr => exact p3
        | ex c w B4 => rw [ho] at p3; exact p3
        | bad => rw [ho] at p3; exact p3
    · rintro σ2 H2 ⟨L2, β2, ρ2, B2, s2, l2, p2⟩
      rw [List.drop_length] at p2
      exact s2.here p2
theorem rd_while {c : E} {b : S} (h : tEx K T ca W C (.while c b) U σ H) : ∃ V : Nat → L2.St → Hp → Prop, (∃ m, V m σ H) ∧ ∀ m σ H, V m σ H → tEt K T ca W C c σ H fun k H1 => if k = true then ∃ N : L2.St → Hp → Prop, (∀ σ' H', N σ' H' → ∃ m', m' < m ∧ V m' σ' H') ∧
    tEx K T ca W C b { U with nx := N, ct := N, bk := U.nx } σ H1 else U.nx σ H1 := by
  obtain ⟨F, β0, H0, L, β, ρ, B, s, h⟩ := h
  have h : OkS K T ca W F β0 H0 L β H (whileL (fun ρ B => ev C c false ρ B) (fun ρ B => ex C b ρ B) fuelW ρ B) U := h
  refine ⟨fun m σ' H' => ∃ L2 β2 ρ2 B2, SR K T F β0 H0 L2 β2 ρ2 B2 σ' H' ∧ OkS K T ca W F β0 H0 L2 β2 H' (whileL (fun ρ B => ev C c false ρ B) (fun ρ B => ex C b ρ B) m ρ2 B2) U, ⟨fuelW, L, β, ρ, B, s, h⟩, ?_⟩
  rintro m σ2 H2 ⟨L2, β2, ρ2, B2, s2, p2⟩
  cases m with
  | zero => exact p2.elim
  | succ m =>
    have p2 : OkS K T ca W F β0 H0 L2 β2 H2 ((ev C c false ρ2 B2).bind fun r B => match truth r.1 with
      | some false => .ok (.nx ρ2) B
      | some true => (ex C b ρ2 B).bind fun o B => match o with
        | .nx ρ => whileL (fun ρ B => ev C c false ρ B) (fun ρ B => ex C b ρ B) m ρ B
        | .ct ρ => whileL (fun ρ B => ev C c false ρ B) (fun ρ B => ex C b ρ B) m ρ B
        | .bk ρ => .ok (.nx ρ) B
        | .rt d fr => .ok (.rt d fr) B
      | none => .bad) U := p2
    refine step1t s2.se (s2.bind p2) (fun r B1 p => ?_) fun r B1 k β3 H3 p hk m3 S3 => ?_
    · cases ht : truth r.1 with
      | none => rw [ht] at p; exact p.elim
      | some k => exact ⟨k, rfl⟩
    · rw [hk] at p
      have s3 := s2.step m3 S3
      have l3 := m3.lt0 (L := L2)
      cases k with
      | false =>
        rw [if_neg Bool.false_ne_true]
        exact s3.here (NxS.lt p l3)
      | true =>
        rw [if_pos rfl]
        refine ⟨fun σ' H' => ∃ L4 β4 ρ4 B4, SR K T F β0 H0 L4 β4 ρ4 B4 σ' H' ∧ OkS K T ca W F β0 H0 L4 β4 H' (whileL (fun ρ B => ev C c false ρ B) (fun ρ B => ex C b ρ B) m ρ4 B4) U, fun σ' H' n => ⟨m, Nat.lt_succ_self m, n⟩, F, β0, H0, L2, β3, ρ2, B1, s3, ?_⟩
        have p := OkS.lt p l3
        cases ho : ex C b ρ2 B1 with
        | ok f B4 =>
          rw [ho] at p
          cases f with
          | nx ρ4 => exact fun L' β' σ' H' s' l' => ⟨L', β', ρ4, B4, s', OkS.lt p l'⟩
          | ct ρ4 => exact fun L' β' σ' H' s' l' => ⟨L', β', ρ4, B4, s', OkS.lt p l'⟩
          | bk ρ4 => exact p
          | rt d fr => exact p
        | ex c w B4 => rw [ho] at p; exact p
        | bad => rw [ho] at p; exact p
/-- the own __init__ of the refusals: what it promises -/
def spInit (K : PySem.W.Frag) : Sp := fun vs H Q _ => ∃ (a A : Addr) (w : V), vs = [.ref a, w] ∧ OexC K A ∧ PySem.W.findIn K (.ref A) ("what" : Str) = some none ∧ H a = some (exo a A none) ∧
  ∀ dx, H dx = none → dx ≠ a → Q .non (upd (upd H dx (exd dx [(("what" : Str), w)])) a (exo a A (some dx)))
theorem rd_raise {c : Nat} {e : E} {A : Addr} (hA : ca c = some A) (hx : OexC K A) (hw : PySem.W.findIn K (.ref A) ("what" : Str) = some none) (h : tEx K T ca W C (.raise c e) U σ H) : tMkO A (spInit K) [] (tCons (tEv K T ca W C e true) tNil) σ H fun cls d H' => W cls d σ H' := by
  obtain ⟨F, β0, H0, L, β, ρ, B, s, h⟩ := h
  refine step1 s.se (s.bind h) fun r B1 v β1 H1 p m1 S1 rb rp fr => ?_
  refine ⟨by show 1 ≤ 1000; decide, fun a ha => ⟨a, A, v, rfl, hx, hw, upd_same, fun dx hd ne => ⟨rfl, dx, [(("what" : Str), v)], upd_same, ?_, ?_, ?_⟩⟩⟩
  · rw [upd_ne ne, upd_same]
  · rw [upd_ne ne] at hd; exact hd
  · rw [upd_ne ne] at hd
    have same : ∀ b o, H1 b = some o → upd (del (upd (upd (upd H1 a (exo a A none)) dx (exd dx [(("what" : Str), v)])) a (exo a A (some dx))) a) dx (.xd [(("what" : Str), v)]) b = some o := fun b o e => by
      have n1 : b ≠ dx := ne_of_none e hd
      have n2 : b ≠ a := ne_of_none e ha
      rw [upd_ne n1, del_ne n2, upd_ne n2, upd_ne n1, upd_ne n2]
      exact e
    have m2 : Mv β1 H1 β1 _ := Mv.of same
    exact p A dx v β1 _ σ hA ((s.mv.trans m1).trans m2) ((same_bxs same S1.bx).less s.sub) upd_same (((rp rfl).mv m2).low s.sub)
end
end Pv
end
section
set_option linter.all false
set_option maxRecDepth 100000
namespace Pv
open PySem PySem.Spec PySem.SeqAt PyProof.Rows L2 LamX

/-! Pv18: the checker of statements -/
def isComp : Expr → Bool
  | .ListComp .. => true
  | .SetComp .. => true
  | .DictComp .. => true
  | _ => false
theorem sw_no {e : Expr} {t : Option Expr} {l : Nat} {env : Env} (h : isComp e = false) : swapsWith e t l env = pure false := by
  cases e <;> first | rfl | cases h
/-- is the new list of a comprehension put into the name at once? -/
def swB (sc scope : Scope) (y : Str) (py pos : Pos) : Bool := (sc.names.lookup y == some .local) && (py.line == pos.line) && !(scope.names.any fun (n, k) => n == y && (k == .local || k == .cell))
theorem block_of {env : Env} (h : env.scope.kind = .function) : env.blockKind = .function := by unfold Env.blockKind; rw [h]; rfl
theorem sw_comp {elt : Expr} {gs : List Comprehension} {scope : Scope} {pos py : Pos} {y : Str} {l : Nat} {env : Env} (hk : env.scope.kind = .function) : swapsWith (.ListComp elt gs scope pos) (some (.Name y py)) l env = pure (swB env.scope scope y py pos) := by
  have hb := block_of hk
  unfold swapsWith swB
  simp only [hb, Expr.pos]
  rfl
theorem sole_other {tg e : Expr} {l : Nat} {env : Env} (h : ∀ y p, tg ≠ .Name y p) : swapsWithSole [tg] e l env = pure false := by
  show swapsWith e (some tg) l env = pure false
  cases e <;> first
    | rfl
    | (cases tg <;> first | rfl | exact absurd rfl (h _ _))
def isTupE : Expr → Bool
  | .Tuple .. => true
  | _ => false
theorem stores_other {tg e : Expr} {env : Env} (h : isTupE e = false) : swappedStores [tg] e env = pure none := by
  cases e <;> first
    | (cases h; done)
    | (cases tg <;> rfl)
theorem stores_fold {ts vs : List Expr} {k k2 : Nat} {p p2 : Pos} {env : Env} (h : vs.all (foldedForSure 8) = true) : swappedStores [.Tuple ts k p] (.Tuple vs k2 p2) env = pure none := by
  unfold swappedStores
  simp only [h, if_true]
  split
  · rfl
  · split
    · rfl
    · split
      · rfl
      · rfl
def nmsIn (sc : Scope) (ts : List Expr) : List Str := ts.filterMap fun
    | .Name id pos => if sc.names.lookup id == some .local && pos.line == (ts.head?.map (·.pos.line)).getD 0 then some id else none
    | _ => none
theorem stores_few {ts vs : List Expr} {k k2 : Nat} {p p2 : Pos} {env : Env} (h : ((nmsIn env.scope ts).length != ts.length) = true) : swappedStores [.Tuple ts k p] (.Tuple vs k2 p2) env = pure none := by
  have h' : ((ts.filterMap fun
    | .Name id pos => if env.kindOf id == some .local && pos.line == (ts.head?.map (·.pos.line)).getD 0 then some id else none
    | _ => none).length != ts.length) = true := h
  unfold swappedStores
  dsimp only
  split
  · rfl
  · split
    · rfl
    · exact if_pos (Bool.or_eq_true_iff.mpr (.inl h'))
theorem stores_two {x y : Str} {px py pt pt2 : Pos} {kt k2 : Nat} {a b : Expr} {env : Env} (hk : env.scope.kind = .function) (ha : noStar a = true) (hb : noStar b = true) (hx : env.scope.names.lookup x = some .local) (hy : env.scope.names.lookup y = some .local)
    (hl : (py.line == px.line) = true) (hn : (y == x) = false) (h1 : [a, b].all (foldedForSure 8) = false) (h2 : [a, b].all (constantsAlone 8) = false) :
    swappedStores [.Tuple [.Name x px, .Name y py] kt pt] (.Tuple [a, b] k2 pt2) env = pure (some [x, y]) := by
  have kx : env.kindOf x = some .local := hx
  have ky : env.kindOf y = some .local := hy
  have hbk := block_of hk
  have hd : ([x, y] : List Str).eraseDups = [x, y] := by
    simp [List.eraseDups_cons, hn]
  unfold swappedStores
  simp only [hbk, h1, h2, kx, ky, List.filterMap, List.head?, Option.map, Option.getD, Expr.pos, hl, hd, List.length_cons, List.length_nil]
  simp [hd, hl, h1, h2]
  intro z
  exfalso
  rcases z with z | z
  · cases a <;> first | (cases ha; done) | (cases z; done)
  · cases b <;> first | (cases hb; done) | (cases z; done)
theorem few_of {e : Expr} {env : Env} {cpos : Pos} (h : noStar e = true) : ((backTo cpos (starEach [e] env)).all (fun x => !x.1) && (backToKw cpos (keywordEach [] env)).all (fun x => x.1.isSome)
      && decide (([e] : List Expr).length + ([] : List Keyword).length + (if ([] : List Keyword).isEmpty then 0 else 1) < 30)) = true := by
  rw [star_of h]
  rfl
end Pv
end
section
set_option linter.all false
set_option maxRecDepth 100000
set_option maxHeartbeats 2000000
namespace Pv
open PySem PySem.Spec PySem.SeqAt PyProof.Rows L2 LamX

/-! Pv18b: an own refusal made; its context is None -/
theorem pmkN {X : Cx} {CX : CXT} {x : Str} {e : Expr} {ta : TA} {p pos : Pos} {A fI : Addr} {k : Nat} {fdv : FuncData} {ps : List Str} {sp : Sp} (T : OexC X.K A) (iC : PySem.W.findIn X.K (.ref A) "__init__" = some (some (.ref fI)))
    (tI : PySem.W.typeIn X.K (.ref fI) = some (.type "function")) (F1 : FnOk X.prog X.w X.K X.mg X.base CX k fI fdv ps sp) (hr : Room (k + 1) X.A) (hb : Binds X.K fdv ps []) (hx : Passes CX X (fun _ _ _ => False)) (hg : Gl X x) (hm : X.mg x = some (.ref A)) (ha : PA X [e] ta)
    (hdb : (x == ("__debug__" : Str)) = false) (he : noStar e = true) : L2N.PMk X (.Call (.Name x p) [e] [] pos) (tMkO A sp [] ta) := by
  intro pins s σ H Q I h
  obtain ⟨nm, qn, N, bs, mro, sn, sub, ab, col, dd, k0, k1, k2, k3, k5, hK, hmro⟩ := T.cls
  refine wpAny_Call_Name_kw (ld_glob I hg hm ?_ hdb)
  refine PySem.W.callWith_K (h₀ := X.base) I.ok.mod.kin T.kC (thn (ha.run pos pins s σ H _ I h) fun us s1 ⟨vs, H1, I1, r1, hz, go⟩ => ⟨I1.kIn, ?_⟩) (star_of he) rfl
  show wpAny _ _ (call (.ref A) us) _ _ _
  obtain ⟨hp, g, dr, tk, os⟩ := s1
  generalize hn : hp.objs.size + 1 = n
  have hle : hp.objs.size ≤ n := by omega
  have fr : H1 n = none := I1.hok.fresh hle
  have go := go n fr
  rw [List.append_nil] at go
  generalize hh : (hp.push (PySem.W.kdv_tup us)).push (PySem.HandSPX.excO A hp.objs.size) = hp2
  have kk : ∀ b o, hp.get? b = some o → hp2.get? b = some o := fun b o z => by
    rw [← hh]
    exact Heap.get?_push_of_some _ (Heap.get?_push_of_some _ z)
  have at_n : hp2.get? n = some (PySem.HandSPX.excO A hp.objs.size) := by
    rw [← hh, ← hn]
    heap_get
  have I2 : Inv X pins σ (upd H1 n (exo n A none)) ⟨hp2, g, dr, tk, os⟩ := I1.laid (t' := tk) kk hle (exo_ok at_n)
  have r2 : Vals (V.ref n :: vs) (Value.ref n :: us) := .cons rfl r1
  have hl : (Value.ref n :: us).length = ps.length := by rw [← r2.length]; exact F1.len _ _ _ _ go
  have b2 := hb ⟨hp2, g, dr, tk, os⟩ (Value.ref n :: us) I2.kIn (by rw [List.append_nil]; exact hl)
  rw [List.append_nil] at b2
  have run := F1.run _ X.stack _ _ ⟨Value.ref n :: us, []⟩ (Value.ref n :: us) _ _ (fun _ _ _ => False) (hr.make A us []) (I2.env0.make A us []) b2 r2 go
  subst hh hn
  refine wpAny_call (PySem.HandSPX.call_own F.excBase_ValueError (fun Y => PySem.HandSPX.refsVE_contains Y mro hmro) (I1.kIn _ _ hK) (PySem.W.looks_findIn I1.kIn iC) (fun self => PySem.W.bind_fn I1.kIn self tI) (by rw [← Paired.length r1, sizeLine_eq]; omega) (codeAny_mono run fun r s2 z => ?_))
  match r, z with
  | .error er, z => exact hx pins σ _ _ er s2 I2 z
  | .ok (.ret u), z =>
    obtain ⟨v, H2, os2, bare2, un2, hok2, rv, ev, d, fs, ea, ed, hd1, q2⟩ := z
    subst ev
    obtain ⟨h2, g2, d2, t2, os'⟩ := s2
    obtain ⟨t0, G, J, kG, ge, hoe, na⟩ := mk_end0 (d2 := d2) (t2 := t2) I1 hle kk un2 hok2 os2 bare2 ea ed hd1
    refine ⟨rv, hp.objs.size + 1, _, _, ⟨G, g2, d2, t2, os'⟩, _, .ref A, some d, rfl, J, kG, ge, hoe, ⟨rfl, rfl, fun vs hv => ?_⟩, rfl, rfl, na, rfl, bare2, raises_own T.exC T.tyC, q2⟩
    cases hv
    rfl
end Pv
end
section
set_option linter.all false
set_option maxRecDepth 100000
namespace Pv
open PySem PySem.Spec PySem.SeqAt PyProof.Rows L2 LamX

/-! Pv19: the checker of statements and why it is right -/
abbrev Rs := Sco → S → List Stmt → Bool
section
variable (tb : Tab) (errs : List Str) (N : List Str) (r : Rc) (rs : Rs) (sc : Sco)
def stepS (a : S) (s : Stmt) : Bool := match a, s with
  | .nop, .Pass _ => true
  | .set _ i (.lc t own elt it c), .Assign [.Name y _] (.ListComp x [⟨tg, iter, ifs, 0⟩] scope p) _ => decide (N[i]? = some y) && loD sc.s y && stepV tb N r sc (.lc t own elt it c) (.ListComp x [⟨tg, iter, ifs, 0⟩] scope p)
  | .set _ i e, .Assign [.Name y _] x _ => decide (N[i]? = some y) && loD sc.s y && !(isComp x) && r sc .v e (.e x)
  | .par _ _ i j a b, .Assign [.Tuple [.Name x px, .Name y py] _ _] (.Tuple [a', b'] _ _) _ => (decide (i ≠ j) && decide (N[i]? = some x) && decide (N[j]? = some y) && decide (sc.s.names.lookup x = some .local) && decide (sc.s.names.lookup y = some .local) && noStar a' && noStar b' &&
      (py.line == px.line) && !(y == x) && !([a', b'].all (foldedForSure 8)) && !([a', b'].all (constantsAlone 8)) && r sc .v a (.e a') && r sc .v b (.e b')) ||
      (decide (N[i]? = some x) && decide (N[j]? = some y) && loD sc.s x && loD sc.s y && noStar a' && noStar b' && ((nmsIn sc.s [.Name x px, .Name y py]).length != 2) && r sc .v a (.e a') && r sc .v b (.e b'))
  | .unp t e, .Assign [tg] x _ => isTupE tg && chkT N (loD sc.s) t tg && r sc .v e (.e x) && (!(isTupE x) || (match tg, x with
    | .Tuple ts _ _, .Tuple vs _ _ => vs.all (foldedForSure 8) || ((nmsIn sc.s ts).length != ts.length)
    | _, _ => false))
  | .popT t i, .Assign [tg] (.Call (.Attribute (.Name y _) m ap) [] [] cp) _ => decide (m = "pop") && decide (N[i]? = some y) && visC sc.s y && okNm y && (ap.endLine == cp.line) && chkT N (loD sc.s) t tg
  | .sub o ix e, .Assign [.Subscript ox ixx _] x _ => noSlice ixx && r sc .v e (.e x) && r sc .v o (.e ox) && r sc .v ix (.e ixx)
  | .put i ix e, .Assign [.Subscript (.Name y _) ixx _] x _ => decide (N[i]? = some y) && visC sc.s y && okNm y && noSlice ixx && r sc .v e (.e x) && r sc .v ix (.e ixx)
  | .app i e, .Expr (.Call (.Attribute (.Name y _) m ap) [x] [] cp) _ => decide (m = "append") && decide (N[i]? = some y) && visC sc.s y && okNm y && (ap.endLine == cp.line) && noStar x && r sc .v e (.e x)
  | .ext i e, .Expr (.Call (.Attribute (.Name y _) m ap) [x] [] cp) _ => decide (m = "extend") && decide (N[i]? = some y) && visC sc.s y && okNm y && (ap.endLine == cp.line) && noStar x && r sc .v e (.e x)
  | .appPop i j e, .Expr (.Call (.Attribute (.Name y _) m ap) [.Call (.Attribute (.Name y2 _) m2 ap2) [x] [] cp2] [] cp) _ => decide (m = "append") && decide (m2 = "pop") && decide (N[i]? = some y) && visC sc.s y && okNm y && (ap.endLine == cp.line) &&
      decide (N[j]? = some y2) && visC sc.s y2 && okNm y2 && (ap2.endLine == cp2.line) && noStar x && r sc .v e (.e x)
  | .ex e, .Expr x _ => !(isComp x) && r sc .v e (.e x)
  | .ret (.v i), .Return (some (.Name y _)) _ => decide (N[i]? = some y) && visC sc.s y && okNm y
  | .ret (.v _), _ => false
  | .ret e, .Return (some x) _ => r sc .v e (.e x)
  | .retN, .Return none _ => true
  | .iff c a b, .If x s1 s2 _ => r sc .t c (.e x) && rs sc a s1 && rs sc b s2
  | .for t it b, .For tg iter body [] _ => noSetE iter && chkT N (loD sc.s) t tg && r sc (.i tg) it (.e iter) && rs sc b body
  | .while c b, .While x body [] _ => r sc .t c (.e x) && rs sc b body
  | .brk, .Break _ => true
  | .cont, .Continue _ => true
  | .raise c e, .Raise (some (.Call (.Name y _) [x] [] _)) none _ => decide (errs[c]? = some y) && glC sc.s y && okNm y && noStar x && r sc .v e (.e x)
  | _, _ => false
end
def chkSs (tb : Tab) (errs : List Str) (N : List Str) (r : Rc) : Nat → Rs
  | 0, _, _, _ => false
  | n + 1, sc, a, ss => match a, ss with
    | .nop, [] => true
    | .seq (.frz _) b, ss => chkSs tb errs N r n sc b ss
    | .seq a b, s :: ss => stepS tb errs N r (chkSs tb errs N r n) sc a s && chkSs tb errs N r n sc b ss
    | _, _ => false
/-- a refusal's class -/
structure ErrAt (X : Cx) (ca : Nat → Option Addr) (k : Nat) (c : Nat) (y : Str) : Prop where
  ex : ∃ (A fI : Addr) (fd : FuncData) (ps : List Str) (j : Nat), ca c = some A ∧ X.mg y = some (.ref A) ∧ OexC X.K A ∧ PySem.W.findIn X.K (.ref A) "__init__" = some (some (.ref fI)) ∧ PySem.W.typeIn X.K (.ref fI) = some (.type "function") ∧
    Binds X.K fd ps [] ∧ j + 1 ≤ k ∧ FnOk X.prog X.w X.K X.mg X.base (L2N.CX X.prog X.w) j fI fd ps (spInit X.K) ∧ PySem.W.findIn X.K (.ref A) ("what" : Str) = some none
structure Sok (tb : Tab) (errs : List Str) (N : List Str) (Hx : Cx → Prop) (X : Cx) (T : List (Addr × Str)) (ca : Nat → Option Addr) (W : WX) (C : Cl) (k : Nat) (sc : Sco) : Prop where
  c : Cok tb N Hx X T ca W C k sc
  fn : ∀ y, X.fn y = true
  knd : sc.s.kind = .function
  own : PassesOwn (model X.prog X.w) X.A X.env X.xe
  errs : ∀ c y, errs[c]? = some y → ErrAt X ca k c y
theorem ps_imp {X : Cx} {s : Stmt} {t t' : TS} (h : PS X s t) (i : ∀ U σ H, t' U σ H → t U σ H) : PS X s t' := ⟨fun pins s σ H U I q => h.run pins s σ H U I (i U σ H q)⟩
theorem pss_imp {X : Cx} {s : List Stmt} {t t' : TS} (h : PSs X s t) (i : ∀ U σ H, t' U σ H → t U σ H) : PSs X s t' := ⟨fun pins s σ H U I q => h.run pins s σ H U I (i U σ H q)⟩
def RsOk (tb : Tab) (errs : List Str) (N : List Str) (Hx : Cx → Prop) (T : List (Addr × Str)) (ca : Nat → Option Addr) (C : Cl) (k : Nat) (rs : Rs) : Prop :=
  ∀ X W sc a ss, Sok tb errs N Hx X T ca W C k sc → rs sc a ss = true → PSs X ss (tEx X.K T ca W C a)
section
variable {tb : Tab} {errs N : List Str} {Hx : Cx → Prop} {X : Cx} {T : List (Addr × Str)} {ca : Nat → Option Addr} {W : WX} {C : Cl} {k : Nat} {sc : Sco} {r : Rc} {rs : Rs}
theorem loD_of {X : Cx} (o : Sok tb errs N Hx X T ca W C k sc) {y : Str} (h : loD sc.s y = true) : Loc X.env.scope y := by
  rw [o.c.scp]
  unfold loD at h
  rw [Bool.or_eq_true] at h
  exact h.imp eq_of_beq eq_of_beq
theorem lo_all {X : Cx} (o : Sok tb errs N Hx X T ca W C k sc) (y : Str) (h : loD sc.s y = true) : Loc X.env.scope y ∧ (X.fn y = true ∨ X.env.scope.names.lookup y = some .local) := ⟨loD_of o h, .inl (o.fn y)⟩
theorem Sok.tgt (o : Sok tb errs N Hx X T ca W C k sc) {t : Tg} {tg : Expr} (h : chkT N (loD sc.s) t tg = true) : PG X tg (tBt X.K T t) :=
  p_tg (by rw [o.c.nm]; exact o.c.nd) o.c.calm (lo_all o) t tg (by rw [o.c.nm]; exact h)
theorem Sok.var (o : Sok tb errs N Hx X T ca W C k sc) {i : Nat} {y : Str} {p : Pos} (h1 : decide (N[i]? = some y) = true) (h2 : visC sc.s y = true) (h3 : okNm y = true) : PE X (.Name y p) (tVar i) := by
  obtain ⟨g1, g2⟩ := okNm_of h3
  exact pe_var (by rw [o.c.nm]; exact of_decide_eq_true h1) (o.c.vis h2) g1 g2
theorem ps_setLcC (hr : RcOk tb N Hx T ca C k r) (o : Sok tb errs N Hx X T ca W C k sc) {i : Nat} {b : Bool} {t : Tg} {own : List Nat} {elt it c : E} {y : Str} {py p pos : Pos} {x tg iter : Expr} {ifs : List Expr} {scope : Scope}
    (h1 : decide (N[i]? = some y) = true) (h2 : loD sc.s y = true) (h : stepV tb N r sc (.lc t own elt it c) (.ListComp x [⟨tg, iter, ifs, 0⟩] scope p) = true) :
    PS X (.Assign [.Name y py] (.ListComp x [⟨tg, iter, ifs, 0⟩] scope p) pos) (tEx X.K T ca W C (.set b i (.lc t own elt it c))) := by
  have hN : X.N.Nodup := by rw [o.c.nm]; exact o.c.nd
  have hi' : X.N[i]? = some y := by rw [o.c.nm]; exact of_decide_eq_true h1
  have hk : X.env.scope.kind = .function := by rw [o.c.scp]; exact o.knd
  by_cases hs : swB X.env.scope scope y py p = true
  · have whole := h
    unfold stepV at h
    obtain ⟨h, h7⟩ := andE h
    obtain ⟨h, h6⟩ := andE h
    obtain ⟨h, h5⟩ := andE h
    obtain ⟨h, h4⟩ := andE h
    obtain ⟨h, h3⟩ := andE h
    obtain ⟨hb1, hb2⟩ := andE h
    have hb := blkOk_by hb1
    have hsw : swapsWith (.ListComp x [⟨tg, iter, ifs, 0⟩] scope p) (some (.Name y py)) pos.line X.env = pure true := by rw [sw_comp hk, hs]
    have hyl : X.env.scope.names.lookup y = some .local := by
      unfold swB at hs
      exact eq_of_beq (andE (andE hs).1).1
    have key := ps_setLc (X := X) (i := i) (y := y) (py := py) (own := own.map fun i => (N.getD i "", i)) (pos := p) (spos := pos) (wi := tEi X.K T ca W C it false) (g := tBt X.K T t) (tt := tEt X.K T ca W0 C c) (te := tEv X.K T ca W0 C elt true) o.c.calm hN hi' hyl hsw
      (hr X W sc (.i tg) it (.e iter) o.c h5 false) (by rw [o.c.nm, o.c.scp]; exact hb)
      (fun s H C' cl fp => p_tg (by rw [o.c.blk.nm]; exact o.c.nd) o.c.blk.calm (fun y hy => loB_of o.c y hy) t tg (by rw [o.c.blk.nm]; exact h4))
      (fun s H C' cl fp => hr _ W0 _ .ts c (.l ifs) o.c.blk h6)
      (fun s H C' cl fp => hr _ W0 _ .v elt (.e x) o.c.blk h7 true) (fold_of h3)
    refine ps_imp key fun U σ H q => ?_
    have := lc_read (X := X) (fun i hi => List.contains_iff_mem.mp (List.all_eq_true.mp hb2 i hi)) (rd_set q)
    rw [own_ix]
    exact this
  · have hsw : swapsWith (.ListComp x [⟨tg, iter, ifs, 0⟩] scope p) (some (.Name y py)) pos.line X.env = pure false := by
      rw [sw_comp hk]
      cases hq : swB X.env.scope scope y py p with
      | true => exact absurd hq hs
      | false => rfl
    exact ps_imp (ps_set hN hi' (loD_of o h2) (stepV_ok hr o.c h) hsw (.inl (o.fn y))) fun U σ H q => rd_set q
theorem notStar_tup {e : Expr} (h : isTupE e = true) : noStar e = true := by
  cases e <;> first | rfl | cases h
theorem stores_any {tg : Expr} {vs : List Expr} {k2 : Nat} {p2 : Pos} {env : Env} (h1 : isTupE tg = true) (h : vs.all (foldedForSure 8) = true) : swappedStores [tg] (.Tuple vs k2 p2) env = pure none := by
  cases tg <;> first | exact stores_fold h | cases h1
theorem tgt_star {lo : Str → Bool} {t : Tg} {e : Expr} (h : chkT N lo t e = true) : noStar e = true := by
  cases e <;> first
    | rfl
    | (cases t <;> (first | (simp [chkT] at h; done) | (cases h; done)))
theorem assign_one {e : Expr} {env : Env} (h : noStar e = true) : (assignEach [e] env).map (·.2) = [assign e env] := by
  rw [assign_star h]; rfl
theorem sw_sole_call {tg f : Expr} {es : List Expr} {kw : List Keyword} {p : Pos} {l : Nat} {env : Env} : swapsWithSole [tg] (.Call f es kw p) l env = pure false := rfl
theorem stores_sub {o i e : Expr} {p : Pos} {env : Env} : swappedStores [.Subscript o i p] e env = pure none := by
  cases e <;> rfl
theorem sub_of {o i : Expr} {pos : Pos} {env : Env} (h : noSlice i = true) : ∀ v, assign (.Subscript o i pos) env v = (do
      let a ← holding [v] (eval o env)
      let b ← holding [v, a] (eval i env)
      standAt pos
      holding [v, a, b] (setItem a b v)
      release [v, a, b] []) := by
  intro v
  cases i <;> first | rfl | cases h
theorem stepS_ok (hr : RcOk tb N Hx T ca C k r) (hrs : RsOk tb errs N Hx T ca C k rs) (o : Sok tb errs N Hx X T ca W C k sc) {a : S} {s : Stmt} (h : stepS tb errs N r rs sc a s = true) : PS X s (tEx X.K T ca W C a) := by
  have hN : X.N.Nodup := by rw [o.c.nm]; exact o.c.nd
  have hk : X.env.scope.kind = .function := by rw [o.c.scp]; exact o.knd
  unfold stepS at h
  split at h
  · exact ps_imp ps_pass fun U σ H q => rd_nop q
  · obtain ⟨h, h3⟩ := andE h
    obtain ⟨h1, h2⟩ := andE h
    exact ps_setLcC hr o h1 h2 h3
  · obtain ⟨h, h4⟩ := andE h
    obtain ⟨h, h3⟩ := andE h
    obtain ⟨h1, h2⟩ := andE h
    exact ps_imp (ps_set hN (by rw [o.c.nm]; exact of_decide_eq_true h1) (loD_of o h2) (hr X W sc .v _ (.e _) o.c h4 true) (sw_no (notE h3)) (.inl (o.fn _))) fun U σ H q => rd_set q
  · rcases Bool.or_eq_true_iff.mp h with h | h
    · obtain ⟨h, h13⟩ := andE h
      obtain ⟨h, h12⟩ := andE h
      obtain ⟨h, h11⟩ := andE h
      obtain ⟨h, h10⟩ := andE h
      obtain ⟨h, h9⟩ := andE h
      obtain ⟨h, h8⟩ := andE h
      obtain ⟨h, h7⟩ := andE h
      obtain ⟨h, h6⟩ := andE h
      obtain ⟨h, h5⟩ := andE h
      obtain ⟨h, h4⟩ := andE h
      obtain ⟨h, h3⟩ := andE h
      obtain ⟨h1, h2⟩ := andE h
      have q1 := of_decide_eq_true h4
      have q2 := of_decide_eq_true h5
      rw [← o.c.scp] at q1 q2
      exact ps_imp (ps_par o.c.calm hN (by rw [o.c.nm]; exact of_decide_eq_true h2) (by rw [o.c.nm]; exact of_decide_eq_true h3) (of_decide_eq_true h1) q1 q2
        (pa_cons (hr X W sc .v _ (.e _) o.c h12 true) (pa_cons (hr X W sc .v _ (.e _) o.c h13 true) pa_nil (star_of h7)) (star_of h6))
        (stores_two hk h6 h7 q1 q2 h8 (notE h9) (notE h10) (notE h11))) fun U σ H q => by
          obtain ⟨L, β, ρ, B, S, z⟩ := rd_par q
          exact ⟨L, β, ρ, B, S, z.imp fun r B1 _ p v β1 H1 m1 b1 rb rp fr => by
            obtain ⟨L', β', ρ', B', S', z'⟩ := p v β1 H1 m1 b1 rb rp fr
            exact ⟨L', β', ρ', B', S', z'.imp fun r2 B2 _ p2 w β2 H2 m2 b2 rb2 rp2 fr2 => ⟨v, w, rfl, p2 w β2 H2 m2 b2 rb2 rp2 fr2⟩⟩⟩
    · obtain ⟨h, h9⟩ := andE h
      obtain ⟨h, h8⟩ := andE h
      obtain ⟨h, h7⟩ := andE h
      obtain ⟨h, h6⟩ := andE h
      obtain ⟨h, h5⟩ := andE h
      obtain ⟨h, h4⟩ := andE h
      obtain ⟨h, h3⟩ := andE h
      obtain ⟨h1, h2⟩ := andE h
      refine ps_imp (ps_asg (pe_tup (pa_cons (hr X W sc .v _ (.e _) o.c h8 true) (pa_cons (hr X W sc .v _ (.e _) o.c h9 true) pa_nil (star_of h6)) (star_of h5)))
        (pg_tup o.c.calm (pgs_cons (pg_name hN (by rw [o.c.nm]; exact of_decide_eq_true h1) (loD_of o h3) (.inl (o.fn _))) (pgs_cons (pg_name hN (by rw [o.c.nm]; exact of_decide_eq_true h2) (loD_of o h4) (.inl (o.fn _))) pgs_nil)))
        (sole_other fun y p z => by cases z) (stores_few (by rw [o.c.scp]; exact h7)) rfl) fun U σ H q => rd_par2 q
  · obtain ⟨h, h4⟩ := andE h
    obtain ⟨h, h3⟩ := andE h
    obtain ⟨h1, h2⟩ := andE h
    refine ps_imp (ps_asg (hr X W sc .v _ (.e _) o.c h3 true) (o.tgt h2) (sole_other fun y p z => by rw [z] at h1; cases h1) ?_ (by rw [assign_star (notStar_tup h1)]; rfl)) fun U σ H q => rd_unp q
    rcases Bool.or_eq_true_iff.mp h4 with h4 | h4
    · exact stores_other (notE h4)
    · split at h4
      · rcases Bool.or_eq_true_iff.mp h4 with h4 | h4
        · exact stores_fold h4
        · exact stores_few (by rw [o.c.scp]; exact h4)
      · cases h4
  · obtain ⟨h, h6⟩ := andE h
    obtain ⟨h, h5⟩ := andE h
    obtain ⟨h, h4⟩ := andE h
    obtain ⟨h, h3⟩ := andE h
    obtain ⟨h1, h2⟩ := andE h
    have e1 := of_decide_eq_true h1
    subst e1
    refine ps_imp (ps_asg (pe_bm0 PySem.F.plainAttrs_list PySem.F.slot_list_pop PySem.F.type_list_pop mt_pop (o.var h2 h3 h4) rfl h5) (o.tgt h6) (sw_sole_call) (stores_other rfl) (assign_one (tgt_star h6))) fun U σ H q => rd_popT q
  · obtain ⟨h, h4⟩ := andE h
    obtain ⟨h, h3⟩ := andE h
    obtain ⟨h1, h2⟩ := andE h
    refine ps_imp (ps_asg (hr X W sc .v _ (.e _) o.c h2 true) (pg_sub (hr X W sc .v _ (.e _) o.c h3 true) (hr X W sc .v _ (.e _) o.c h4 true) set_list (sub_of h1)) (sole_other fun y p z => by cases z) ?_ rfl) fun U σ H q => rd_sub q
    exact stores_sub
  · obtain ⟨h, h6⟩ := andE h
    obtain ⟨h, h5⟩ := andE h
    obtain ⟨h, h4⟩ := andE h
    obtain ⟨h, h3⟩ := andE h
    obtain ⟨h1, h2⟩ := andE h
    refine ps_imp (ps_asg (hr X W sc .v _ (.e _) o.c h5 true) (pg_sub (o.var h1 h2 h3) (hr X W sc .v _ (.e _) o.c h6 true) set_list (sub_of h4)) (sole_other fun y p z => by cases z) ?_ rfl) fun U σ H q => rd_put q
    exact stores_sub
  · obtain ⟨h, h7⟩ := andE h
    obtain ⟨h, h6⟩ := andE h
    obtain ⟨h, h5⟩ := andE h
    obtain ⟨h, h4⟩ := andE h
    obtain ⟨h, h3⟩ := andE h
    obtain ⟨h1, h2⟩ := andE h
    have e1 := of_decide_eq_true h1
    subst e1
    exact ps_imp (ps_expr (pe_bm PySem.F.plainAttrs_list PySem.F.slot_list_append PySem.F.type_list_append mt_append (o.var h2 h3 h4) (pa_cons (hr X W sc .v _ (.e _) o.c h7 true) pa_nil (star_of h6)) rfl (few_of h6) h5 (star_of h6) rfl) rfl) fun U σ H q => rd_app q
  · obtain ⟨h, h7⟩ := andE h
    obtain ⟨h, h6⟩ := andE h
    obtain ⟨h, h5⟩ := andE h
    obtain ⟨h, h4⟩ := andE h
    obtain ⟨h, h3⟩ := andE h
    obtain ⟨h1, h2⟩ := andE h
    have e1 := of_decide_eq_true h1
    subst e1
    exact ps_imp (ps_expr (pe_bm PySem.F.plainAttrs_list PySem.F.slot_list_extend PySem.F.type_list_extend mt_extend (o.var h2 h3 h4) (pa_cons (hr X W sc .v _ (.e _) o.c h7 true) pa_nil (star_of h6)) rfl (few_of h6) h5 (star_of h6) rfl) rfl) fun U σ H q => rd_ext q
  · obtain ⟨h, h12⟩ := andE h
    obtain ⟨h, h11⟩ := andE h
    obtain ⟨h, h10⟩ := andE h
    obtain ⟨h, h9⟩ := andE h
    obtain ⟨h, h8⟩ := andE h
    obtain ⟨h, h7⟩ := andE h
    obtain ⟨h, h6⟩ := andE h
    obtain ⟨h, h5⟩ := andE h
    obtain ⟨h, h4⟩ := andE h
    obtain ⟨h, h3⟩ := andE h
    obtain ⟨h1, h2⟩ := andE h
    have e1 := of_decide_eq_true h1
    have e2 := of_decide_eq_true h2
    subst e1 e2
    exact ps_imp (ps_expr (pe_bm PySem.F.plainAttrs_list PySem.F.slot_list_append PySem.F.type_list_append mt_append (o.var h3 h4 h5) (pa_cons (pe_bm PySem.F.plainAttrs_list PySem.F.slot_list_pop PySem.F.type_list_pop mt_popAt (o.var h7 h8 h9) (pa_cons (hr X W sc .v _ (.e _) o.c h12 true) pa_nil (star_of h11)) rfl (few_of h11) h10 (star_of h11) rfl) pa_nil rfl) rfl (few_of rfl) h6 rfl rfl) rfl) fun U σ H q => rd_appPop q
  · obtain ⟨h1, h2⟩ := andE h
    exact ps_imp (ps_expr (hr X W sc .v _ (.e _) o.c h2 false) (sw_no (notE h1))) fun U σ H q => rd_ex q
  · obtain ⟨h, h3⟩ := andE h
    obtain ⟨h1, h2⟩ := andE h
    exact ps_imp (ps_ret (o.var h1 h2 h3)) fun U σ H q => rd_retv q
  · cases h
  · rename_i e x p nv
    exact ps_imp (ps_ret (hr X W sc .v _ (.e _) o.c h true)) fun U σ H q => rd_ret (fun i z => nv i z) q
  · exact ps_imp ps_retN fun U σ H q => rd_retN q
  · obtain ⟨h, h3⟩ := andE h
    obtain ⟨h1, h2⟩ := andE h
    exact ps_imp (ps_if (hr X W sc .t _ (.e _) o.c h1) (hrs X W sc _ _ o h2) (hrs X W sc _ _ o h3)) fun U σ H q => rd_if q
  · obtain ⟨h, h4⟩ := andE h
    obtain ⟨h, h3⟩ := andE h
    obtain ⟨h1, h2⟩ := andE h
    exact ps_imp (ps_for o.own o.c.calm (hr X W sc (.i _) _ (.e _) o.c h3 true) (o.tgt h2) (hrs X W sc _ _ o h4) (fold_of h1)) fun U σ H q => rd_for q
  · obtain ⟨h1, h2⟩ := andE h
    exact ps_imp (ps_while o.own (hr X W sc .t _ (.e _) o.c h1) (hrs X W sc _ _ o h2)) fun U σ H q => rd_while q
  · exact ps_imp ps_break fun U σ H q => rd_brk q
  · exact ps_imp ps_continue fun U σ H q => rd_cont q
  · obtain ⟨h, h5⟩ := andE h
    obtain ⟨h, h4⟩ := andE h
    obtain ⟨h, h3⟩ := andE h
    obtain ⟨h1, h2⟩ := andE h
    obtain ⟨A, fI, fd, ps, j, q1, q2, q3, q4, q5, q6, q7, q8, q9⟩ := (o.errs _ _ (of_decide_eq_true h1)).ex
    exact ps_imp (L2N.ps_raise o.c.calm o.c.tk (pmkN q3 q4 q5 q8 (o.c.room.mono (by omega)) q6 (L2N.passes_call o.c.tk fun _ _ _ _ z => z.elim) (o.c.gl h2) q2 (pa_cons (hr X W sc .v _ (.e _) o.c h5 true) pa_nil (star_of h4)) (okNm_of h3).1 h4)) fun U σ H q => rd_raise q1 q3 q9 q
  · cases h
theorem chkSs_ok (hr : RcOk tb N Hx T ca C k r) : ∀ n, RsOk tb errs N Hx T ca C k (chkSs tb errs N r n)
  | 0 => fun X W sc a ss o h => by rw [chkSs] at h; cases h
  | n + 1 => fun X W sc a ss o h => by
    have ih := chkSs_ok hr n
    unfold chkSs at h
    split at h
    · exact pss_imp pss_nil fun U σ H q => rd_nop q
    · exact pss_imp (ih X W sc _ _ o h) fun U σ H q => by
        obtain ⟨F, β0, H0, L, β, ρ, B, s, z⟩ := rd_seq q
        exact rd_frz (U := { U with nx := tEx X.K T ca W C _ U }) (rd_seq q)
    · obtain ⟨h1, h2⟩ := andE h
      exact pss_imp (pss_cons (stepS_ok hr ih o h1) (ih X W sc _ _ o h2)) fun U σ H q => rd_seq q
    · cases h
end
end Pv
end
section
set_option linter.all false
set_option maxRecDepth 100000
namespace Pv
open PySem PySem.Spec PySem.SeqAt PyProof.Rows L2 LamX

/-! Pv20: defs -/
/-- a def of the text beside its term -/
structure Row where
  name : Str
  ps : List Str
  N : List Str
  fd : FnD
  params : Arguments
  body : List Stmt
  scope : Scope
def rowC (tb : Tab) (errs : List Str) (hd : Rc → Rc) (n : Nat) (r : Row) : Bool :=
  C8.scC r.N r.ps r.scope && decide (r.ps.length = r.fd.np) && decide (r.N.length = r.fd.ns) && chkSs tb errs r.N (chk tb r.N hd n) n ⟨r.scope, true⟩ r.fd.body r.body
section
variable {P : Program} {w : World} {K : PySem.W.Frag} {mg : Str → Option Value} {base : Heap} {T : List (Addr × Str)} {ca : Nat → Option Addr} {C : Cl} {tb : Tab} {errs : List Str} {Hx : Cx → Prop}
theorem rps_len {L : Addr → Prop} {β : List Addr} {H : Hp} {ds : List D} {vs : List V} (h : Rps K L β H ds vs) : vs.length = ds.length := h.length
theorem slots_get {fd : FnD} {args : List D} {i : Nat} {s : Sl} (h : (slots0 fd args)[i]? = some s) : (∃ d, s = .vl d ∧ args[i]? = some d) ∨ s = .un := by
  unfold slots0 at h
  rcases Nat.lt_or_ge i (args.map Sl.vl).length with q | q
  · rw [List.getElem?_append_left q, List.getElem?_map] at h
    cases e : args[i]? with
    | none => rw [e] at h; cases h
    | some d => rw [e] at h; cases h; exact .inl ⟨d, rfl, rfl⟩
  · rw [List.getElem?_append_right q] at h
    have := List.mem_of_getElem? h
    rw [List.mem_replicate] at this
    exact .inr this.2
theorem start_get {N : List Str} {vs : List V} {i : Nat} {v : V} (h : vs[i]? = some v) : (L2.start N vs)[i]? = some (some v) := by
  unfold L2.start
  have hi : i < vs.length := (List.getElem?_eq_some_iff.mp h).1
  rw [List.getElem?_append_left (by rw [List.length_map]; exact hi), List.getElem?_map, h]
  rfl
/-- at a def's entry -/
theorem SR.start {L : Addr → Prop} {β : List Addr} {H : Hp} {B : Bx} {ds : List D} {vs : List V} {N : List Str} {fd : FnD} (bx : Bxs K T L β B H) (r : Rps K L β H ds vs) (hl : ds.length = fd.np) (hN : N.length = fd.ns) : SR K T L β H L β (slots0 fd ds) B (L2.start N vs) H := by
  have lv := r.length
  refine ⟨⟨bx, ?_, fun i d e => ?_, fun i xs e => ?_⟩, fun a z => z, fun i xs a e => ?_, fun i j xs ys a e => ?_, fun a z => .inl z, Mv.refl _ _⟩
  · unfold slots0 L2.start
    rw [List.length_append, List.length_append, List.length_map, List.length_map, List.length_replicate, List.length_replicate, lv, hl, hN]
  · rcases slots_get e with ⟨d', e1, e2⟩ | e1
    · cases e1
      obtain ⟨v, h1, h2⟩ := r.get e2
      exact ⟨v, start_get h1, h2⟩
    · cases e1
  · rcases slots_get e with ⟨_, e1, _⟩ | e1 <;> cases e1
  · rcases slots_get e with ⟨_, e1, _⟩ | e1 <;> cases e1
  · rcases slots_get e with ⟨_, e1, _⟩ | e1 <;> cases e1
/-- a def's promise, where its meaning is its term's -/
theorem sp_read {L : Addr → Prop} {β : List Addr} {H : Hp} {o : Out Fl} {Q : VK} {E : XK} (h : match outR o with
  | .ok r B' => ∀ v β' H', Mv β H β' H' → Bxs K T L β' B' H' → Rp K L β' H' r.1 v → (r.2 = true → Fr K L β' H H' r.1 v) → Q v H'
  | .ex c w B' => ∀ a d vw β' H', ca c = some a → Mv β H β' H' → Bxs K T L β' B' H' → H' d = some (.xd [(("what" : Str), vw)]) → Rp K L β' H' w vw → E (.ref a) (some d) H'
  | .bad => False) : OkS K T ca (fun cls d _ H => E cls d H) L β H L β H o { nx := fun _ H' => Q .non H', rt := Q } := by
  cases o with
  | ok f B1 =>
    cases f with
    | nx ρ => exact fun L' β' σ' H' s _ => h .non β' H' s.mv (s.se.bx.less s.sub) (by rw [Rp]) fun z => nomatch z
    | rt d fr => exact h
    | bk ρ => exact h.elim
    | ct ρ => exact h.elim
  | ex c w B1 => exact fun a d vw β' H' _ => h a d vw β' H'
  | bad => exact h.elim
theorem sp_len {f : Nat} {n : Nat} {G : List FnD} {fd : FnD} (hG : G[f]? = some fd) {vs : List V} {H : Hp} {Q : VK} {E : XK} (h : spF K T ca (callF G n) f vs H Q E) : vs.length = fd.np := by
  obtain ⟨L, β, B, ds, bx, r, h⟩ := h
  rw [r.length]
  cases n with
  | zero => exact h.elim
  | succ n =>
    rw [callF, hG] at h
    simp only at h
    by_cases hl : ds.length = fd.np
    · exact hl
    · rw [if_neg hl] at h
      exact h.elim
/-- what a def's body may rely on -/
structure Env1 (P : Program) (w : World) (K : PySem.W.Frag) (mg : Str → Option Value) (base : Heap) (T : List (Addr × Str)) (ca : Nat → Option Addr) (C : Cl) (tb : Tab) (errs : List Str) (k : Nat) : Prop where
  consts : ∀ n d, tb.consts.lookup n = some d → ∃ v u, mg n = some u ∧ RelV v u ∧ ∀ L β H, Rp K L β H d v
  bis : ∀ n, tb.bis.contains n = true → mg n = none
  fns : ∀ f n, tb.fns[f]? = some n → ∃ a fd ps, mg n = some (.ref a) ∧ PySem.W.keepIn K (.ref a) = true ∧ Binds K fd ps [] ∧ FnOk P w K mg base (L2N.CX P w) k a fd ps (spF K T ca C f)
  errs : ∀ c y, errs[c]? = some y → ∃ (A fI : Addr) (fd : FuncData) (ps : List Str) (j : Nat), ca c = some A ∧ mg y = some (.ref A) ∧ OexC K A ∧ PySem.W.findIn K (.ref A) "__init__" = some (some (.ref fI)) ∧ PySem.W.typeIn K (.ref fI) = some (.type "function") ∧
    Binds K fd ps [] ∧ j + 1 ≤ k ∧ FnOk P w K mg base (L2N.CX P w) j fI fd ps (spInit K) ∧ PySem.W.findIn K (.ref A) ("what" : Str) = some none
/-- what the checker's rest may rely on in a def's own block -/
def HxOk (P : Program) (w : World) (K : PySem.W.Frag) (mg : Str → Option Value) (base : Heap) (Hx : Cx → Prop) (r : Row) (f : Addr) : Prop :=
  ∀ (cdv : Value) (A : Around) (outer : List Env) (s : Shared) (H : Hp) (E : XK), (∃ (oc : Value) (od : Option Addr) (dV kV doc pm : Value) (an : Option Addr) (ct : Value) (osl : Array (Option Value)), K.lookup f = some ⟨oc, od, .func (PySem.W.fnOf r.name r.name r.params r.body r.scope dV kV doc pm an cdv ct), osl⟩) → PySem.W.codeIn K cdv r.name = true →
    Hx (cxOf (L2N.CX P w) P w K mg base r.N r.name r.scope f cdv A outer s H E)
theorem fn_ok {r : Row} {f : Nat} {a : Addr} {fdv : FuncData} {G : List FnD} {n k m : Nat} {hd : Rc → Rc} (e1 : Env1 P w K mg base T ca (callF G n) tb errs k) (F : FunD K r.name r.name r.params r.body r.scope [] [] a fdv) (hG : G[f]? = some r.fd) (hh : HdOk tb r.N Hx T ca (callF G n) k hd) (hx : HxOk P w K mg base Hx r a)
    (hc : rowC tb errs hd m r = true) : FnOk P w K mg base (L2N.CX P w) (k + 4) a fdv r.ps (spF K T ca (callF G (n + 1)) f) := by
  obtain ⟨hc, c4⟩ := andE hc
  obtain ⟨hc, c3⟩ := andE hc
  obtain ⟨c1, c2⟩ := andE hc
  have S := C8.fnScope_by c1
  have e2 := of_decide_eq_true c2
  have e3 := of_decide_eq_true c3
  obtain ⟨oc, od, dV, kV, doc, pm, an, cdv, ct, osl, rfl, lk, hcd, _, _⟩ := F.ex
  refine fn_of lk hcd S (fun vs H Q E h => by rw [sp_len hG h, e2]) fun A outer s H vs Q E hr h => ?_
  obtain ⟨L, β, B, ds, bx, rr, h⟩ := h
  rw [callF, hG] at h
  simp only at h
  by_cases hl : ds.length = r.fd.np
  · rw [if_pos hl] at h
    have tko : L2N.Takes (cxOf (L2N.CX P w) P w K mg base r.N r.name r.scope a cdv A outer s H E) (fun cls d _ H => E cls d H) := L2N.takes_of rfl rfl rfl rfl
    have cok : Cok tb r.N Hx (cxOf (L2N.CX P w) P w K mg base r.N r.name r.scope a cdv A outer s H E) T ca (fun cls d _ H => E cls d H) (callF G n) k ⟨r.scope, true⟩ :=
      ⟨⟨e1.consts, e1.bis, fun f n h => by
        obtain ⟨a, fd, ps, q1, q2, q3, q4⟩ := e1.fns f n h
        exact ⟨a, fd, ps, q1, q2, q3, q4⟩⟩, rfl, rfl, S.nd, rfl, hr.mono (by omega), fun _ => ⟨hx cdv A outer s H E ⟨_, _, _, _, _, _, _, _, _, lk⟩ hcd, hr⟩, tko⟩
    have sok : Sok tb errs r.N Hx (cxOf (L2N.CX P w) P w K mg base r.N r.name r.scope a cdv A outer s H E) T ca (fun cls d _ H => E cls d H) (callF G n) k ⟨r.scope, true⟩ :=
      ⟨cok, fun _ => rfl, S.kind, passes_of rfl, fun c y h => ⟨e1.errs c y h⟩⟩
    exact ⟨_, chkSs_ok (chk_ok hh m) m _ _ _ _ _ sok c4, L, β, H, L, β, _, B, SR.start bx rr hl e3, sp_read h⟩
  · rw [if_neg hl] at h
    exact h.elim
end
end Pv
end
section
set_option linter.all false
set_option maxRecDepth 100000
set_option maxHeartbeats 2000000
namespace Pv
open PySem PySem.Spec PySem.SeqAt PyProof.Rows L2 LamX HotX

/-! Pv21: iterators end, pairs are taken apart while an exception is handled -/
section
variable {prog : Program} {w : World} {A : Around} {E : Value → Shared → Prop} {s : Shared}
theorem lst_endH {it l x1 : Addr} {i : Nat} {items} {Q : Option Value → Shared → Prop} (hot : HotAt A x1 s.heap) (nx : x1 ≠ it) (hit : s.heap.IsListIter it l i) (hl : s.heap.IsList l items) (hi : items[i]? = none)
    (hQ : ∀ h', Heap.ExtBut it s.heap h' → Q none { s with heap := h' }) : wpAny (model prog w) A (pyNext (.ref it)) Q E s := by
  obtain ⟨hh, o1, vs1, h1, d1, c1⟩ := hot
  obtain ⟨oi, gi, ci, di⟩ := id hit
  obtain ⟨ol, gl, _, nl, dl⟩ := hl
  unfold pyNext
  refine wpAny_bind (wpAny_attempt (wpAny_callSpecial?_slot (name := Str.ofString "__next__") hit.typeIs slot_listiter_next (wpAny_call_entry slot_listiter_next hit.typeIs entry_listiter_next ?_ (args_listiter_next _))))
  show wpAny _ _ (field (.ref it) 0 >>= _) _ _ s
  refine wpAny_bind (wpAny_field gi di (x := .ref l) rfl ?_)
  show wpAny _ _ (if (Value.ref l == Value.none) = true then _ else _) _ _ s
  rw [if_neg (by intro z; cases z)]
  show wpAny _ _ (field (.ref it) 1 >>= _) _ _ s
  refine wpAny_bind (wpAny_field gi di (x := .int i 0) rfl ?_)
  show wpAny _ _ (seqItems? (.ref l) >>= _) _ _ s
  refine wpAny_bind (wpAny_seqItems gl dl ?_)
  simp only [Int.toNat_natCast, hi]
  refine wpAny_bind (wpAny_rule (wpAny_bind (wpAny_setField gi di (by simp) ?_)))
  show wpAny _ _ (newExc (.type "StopIteration") [] >>= _) _ _ _
  refine wpAny_bind ?_
  simp only [newExc, newTuple]
  refine wpAny_bind (wpAny_newObj_type ?_ (by size_fits))
  refine wpAny_bind (m := firstArgMember _ _) (wpAny_of_eq (a := Value.none) (by first | rfl | (simp only [firstArgMember]; rfl)) ?_)
  refine wpAny_newObj_type ?_ (by size_fits)
  have sb := Heap.SameBut.update s.heap it (Obj.mapFields (·.setIfInBounds 0 .none))
  have h1' := (sb.2 x1 nx).trans h1
  refine raiseNew_hot ⟨hh, o1, vs1, Heap.get?_push_of_some _ (Heap.get?_push_of_some _ h1'), d1, c1⟩ (Nat.ne_of_lt (Heap.lt_size (Heap.get?_push_of_some _ h1'))) (Heap.get?_push_size _ rfl) rfl (by first | (simp; done) | (simp; omega) | (simp only [Array.size_append]; simp; omega)) ?_
  refine wpAny_bind (wpAny_isInstance (T := "StopIteration") (b := true) ⟨_, Heap.get?_update_self _ (Heap.get?_push_size _ rfl) rfl, rfl⟩ isSubtype_stop ?_)
  refine wpAny_pure (hQ _ fun b o hb z => ?_)
  have z1 := (sb.2 b hb).trans z
  rw [Heap.get?_update_other _ _ (Nat.ne_of_gt (Heap.lt_size (Heap.get?_push_of_some _ z1)))]
  exact Heap.get?_push_of_some _ (Heap.get?_push_of_some _ z1)
theorem tup_endH {it l x1 : Addr} {i : Nat} {items} {Q : Option Value → Shared → Prop} (hot : HotAt A x1 s.heap) (nx : x1 ≠ it) (hit : IsTupIter s.heap it l i) (hl : IsTup s.heap l items) (hi : items[i]? = none)
    (hQ : ∀ h', Heap.ExtBut it s.heap h' → Q none { s with heap := h' }) : wpAny (model prog w) A (pyNext (.ref it)) Q E s := by
  obtain ⟨hh, o1, vs1, h1, d1, c1⟩ := hot
  obtain ⟨oi, gi, ci, di⟩ := id hit
  obtain ⟨ol, gl, _, nl, dl⟩ := hl
  unfold pyNext
  refine wpAny_bind (wpAny_attempt (wpAny_callSpecial?_slot (name := Str.ofString "__next__") hit.typeIs slot_tupleiter_next (wpAny_call_entry slot_tupleiter_next hit.typeIs entry_tupleiter_next ?_ (args_tupleiter_next _))))
  show wpAny _ _ (field (.ref it) 0 >>= _) _ _ s
  refine wpAny_bind (wpAny_field gi di (x := .ref l) rfl ?_)
  show wpAny _ _ (if (Value.ref l == Value.none) = true then _ else _) _ _ s
  rw [if_neg (by intro z; cases z)]
  show wpAny _ _ (field (.ref it) 1 >>= _) _ _ s
  refine wpAny_bind (wpAny_field gi di (x := .int i 0) rfl ?_)
  show wpAny _ _ (seqItems? (.ref l) >>= _) _ _ s
  refine wpAny_bind (wpAny_seqItems gl dl ?_)
  simp only [Int.toNat_natCast, hi]
  refine wpAny_bind (wpAny_rule (wpAny_bind (wpAny_setField gi di (by simp) ?_)))
  show wpAny _ _ (newExc (.type "StopIteration") [] >>= _) _ _ _
  refine wpAny_bind ?_
  simp only [newExc, newTuple]
  refine wpAny_bind (wpAny_newObj_type ?_ (by size_fits))
  refine wpAny_bind (m := firstArgMember _ _) (wpAny_of_eq (a := Value.none) (by first | rfl | (simp only [firstArgMember]; rfl)) ?_)
  refine wpAny_newObj_type ?_ (by size_fits)
  have sb := Heap.SameBut.update s.heap it (Obj.mapFields (·.setIfInBounds 0 .none))
  have h1' := (sb.2 x1 nx).trans h1
  refine raiseNew_hot ⟨hh, o1, vs1, Heap.get?_push_of_some _ (Heap.get?_push_of_some _ h1'), d1, c1⟩ (Nat.ne_of_lt (Heap.lt_size (Heap.get?_push_of_some _ h1'))) (Heap.get?_push_size _ rfl) rfl (by first | (simp; done) | (simp; omega) | (simp only [Array.size_append]; simp; omega)) ?_
  refine wpAny_bind (wpAny_isInstance (T := "StopIteration") (b := true) ⟨_, Heap.get?_update_self _ (Heap.get?_push_size _ rfl) rfl, rfl⟩ isSubtype_stop ?_)
  refine wpAny_pure (hQ _ fun b o hb z => ?_)
  have z1 := (sb.2 b hb).trans z
  rw [Heap.get?_update_other _ _ (Nat.ne_of_gt (Heap.lt_size (Heap.get?_push_of_some _ z1)))]
  exact Heap.get?_push_of_some _ (Heap.get?_push_of_some _ z1)
/-- n things out of a tuple of n -/
theorem unpackH {t x1 : Addr} {items : Array Value} {Q : List Value → Shared → Prop} (hot : HotAt A x1 s.heap) (ht : IsTup s.heap t items)
    (hQ : ∀ h', Heap.ExtBut s.heap.objs.size s.heap h' → Q items.toList { s with heap := h' }) : wpAny (model prog w) A (unpackItems (.ref t) items.size none) Q E s := by
  obtain ⟨hh, o1, vs1, h1, d1, c1⟩ := hot
  have n1 : x1 ≠ s.heap.objs.size := Nat.ne_of_lt (Heap.lt_size h1)
  have nt : t ≠ s.heap.objs.size := by obtain ⟨o, ho, _⟩ := ht; exact Nat.ne_of_lt (Heap.lt_size ho)
  unfold unpackItems notIterableAtAll
  refine wpAny_bind (wpAny_bind (wpAny_specialOf ht.typeIs slot_tuple_iter.lookup (wpAny_pure ?_)))
  simp only [Bool.false_eq_true, if_false]
  refine wpAny_bind (wpAny_holding (iter_tuple ht (wpAny_bind (wpAny_holding (draw_tuple nt items.size 0 _ _ ⟨_, Heap.get?_push_size _ rfl, rfl, rfl⟩ (ht.push _) (by omega) fun h2 hit2 sb2 => ?_)))))
  have whole : List.take items.size (List.drop 0 items.toList) = items.toList := by
    rw [List.drop_zero]
    exact List.take_of_length_le (by simp)
  rw [whole, if_neg (by simp)]
  have h1' : h2.get? x1 = some o1 := sb2.extBut x1 o1 n1 (Heap.get?_push_of_some _ h1)
  refine wpAny_bind (wpAny_holding (tup_endH ⟨hh, o1, vs1, h1', d1, c1⟩ n1 hit2 ((ht.push _).extBut sb2.extBut nt) (by simp) fun h3 he3 => ?_))
  simp only [Option.isSome_none, Bool.false_eq_true, if_false]
  exact wpAny_pure (hQ h3 fun b o hb z => he3 b o hb (sb2.extBut b o hb (Heap.get?_push_of_some _ z)))
theorem asg_tupH {env : Env} {elts : List Expr} {k : Nat} {pos : Pos} {t x1 : Addr} {items : Array Value} {Q : Unit → Shared → Prop} (hot : HotAt A x1 s.heap) (ht : IsTup s.heap t items) (hn : (assignEach elts env).length = items.size) (hst : (assignEach elts env).findIdx? (·.1) = none)
    (h : ∀ h', Heap.ExtBut s.heap.objs.size s.heap h' → wpAny (model prog w) A (assignInOrder ((assignEach elts env).map (·.2)) items.toList) Q E { s with heap := h' }) : wpAny (model prog w) A (assign (.Tuple elts k pos) env (.ref t)) Q E s := by
  rw [assign_Tuple]
  refine wpAny_bind (wpAny_standAt ?_)
  unfold unpack
  rw [hn, hst]
  exact wpAny_bind (wpAny_holding (unpackH hot ht h))
end
end Pv
end
section
set_option linter.all false
set_option maxRecDepth 100000
set_option maxHeartbeats 2000000
namespace Pv
open PySem PySem.Spec PySem.SeqAt PyProof.Rows L2 LamX HotX L2H

/-! Pv22: a comprehension over a list while an exception is handled -/
theorem hot_at {X : Cx} {p : Addr × Obj} {pins : List (Addr × Obj)} {σ : L2.St} {H : Hp} {s : Shared} (h1 : Hot1 X.A p) (hp : p ∈ X.pn ++ pins) (I : Inv X pins σ H s) : HotAt X.A p.1 s.heap := by
  obtain ⟨hh, vs, hd, hc⟩ := h1
  exact ⟨hh, p.2, vs, (I.pin p hp).1, hd, hc⟩
/-- a target, its tuple taken apart while p is handled -/
def PGH (X : Cx) (p : Addr × Obj) (tg : Expr) (t : TG) : Prop :=
  ∀ (pins : List (Addr × Obj)) (s : Shared) (σ : L2.St) (H : Hp) (v : V) (u : Value) (Q : L2.St → Hp → Prop), Hot1 X.A p → p ∈ X.pn ++ pins → Inv X pins σ H s → RelV v u → t v σ H Q →
    wpAny (model X.prog X.w) X.A (assign tg X.env u) (fun _ s' => ∃ σ' H', Inv X pins σ' H' s' ∧ Q σ' H') X.xe s
theorem pgh_tup {X : Cx} {p : Addr × Obj} {es : List Expr} {k n : Nat} {t : TGs} {pos : Pos} (h : PGs X es t) (hn : (assignEach es X.env).length = n) (hst : (assignEach es X.env).findIdx? (·.1) = none) : PGH X p (.Tuple es k pos) (gTup X.K n t) := by
  intro pins s σ H v u Q h1 hp I r ⟨a, xs, ev, hq, hl, hw⟩
  subst ev
  cases r
  obtain ⟨its, rv, ht, _⟩ := I.tuple hq
  refine asg_tupH (hot_at h1 hp I) ht (by simp [hn, ← hl, rv.length]) hst fun h' hx => ?_
  have J : Inv X pins σ H { s with heap := h' } := I.kept (t' := s.toks) fun b o e => hx b o (Nat.ne_of_lt (Heap.lt_size e)) e
  exact h.run pins _ σ H xs _ Q J (by simpa using rv) hw
theorem blk_pin {X : Cx} {s3 : Shared} {H3 : Hp} {scope : Scope} {ce : Env} {it : Addr} {p : Addr × Obj} {σ' : L2.St} {H' : Hp} {s' : Shared} (hp : s3.heap.get? p.1 = some p.2) (n0 : H3 p.1 = none) (n1 : p.1 ∉ frs X.stack) (n2 : p.1 ≠ it) (n3 : p.1 ≠ ce.locals) (n4 : ∀ v, p.2.data ≠ .cell v)
    (I : Inv (X.blk s3 H3 scope ce [it]) [] σ' H' s') : Inv (X.blk s3 H3 scope ce [it]) [p] σ' H' s' :=
  I.pins_of fun q hq => by
    have e : q = p := by simpa using hq
    subst e
    have nx : q.1 ∉ [it] := by simpa using n2
    exact ⟨I.base.keep q.1 q.2 hp n0 n1 nx, I.base.free q.1 q.2 hp n0 nx, n3, n1, n4⟩
theorem lcH {X : Cx} {p : Addr × Obj} {elt tg iter : Expr} {ifs : List Expr} {scope : Scope} {own : List (Str × Nat)} {pos : Pos} {tl : TE} {g : TG} {tt : TT} {te : TE} (h1 : Hot1 X.A p) (hpn : p ∈ X.pn) (hN : X.N.Nodup) (hi : PE X iter tl) (ok : BlkOk X.N X.env.scope scope own)
    (hg : ∀ (s : Shared) (H : Hp) (C : Addr) (cl : List (Str × Addr)) (fp : List Addr), PGH (X.blk s H scope (compEnvC scope cl C X.env) fp) p tg g)
    (ht : ∀ (s : Shared) (H : Hp) (C : Addr) (cl : List (Str × Addr)) (fp : List Addr), PTs (X.blk s H scope (compEnvC scope cl C X.env) fp) ifs tt)
    (he : ∀ (s : Shared) (H : Hp) (C : Addr) (cl : List (Str × Addr)) (fp : List Addr), PE (X.blk s H scope (compEnvC scope cl C X.env) fp) elt te) (hs : ∀ x, foldedSetIterable iter X.env x = pure x) :
    PE X (.ListComp elt [⟨tg, iter, ifs, 0⟩] scope pos) (tLc (iList X.K tl) g tt te (own.map (·.2))) := by
  refine ⟨fun pins s σ H Q I h => ?_⟩
  rw [eval_ListComp]
  have hfree : ∀ y ∈ scope.names, y.2 = .free → ∃ c, X.env.cells.lookup y.1 = some c := fun y hy e => (ok.free y hy e).elim (fun k => I.ok.has _ (.inl k)) fun k => I.ok.has _ (.inr k)
  refine wpAny_comprehension_free (use := none) rfl hs (closure_ok hfree) ok.kind (fun y hy e => by rw [ok.uniq y hy, e]) (thn (hi.run pins s σ H _ I h) fun xv s1 ⟨xr, H2, I1, r1, ⟨l, exl, ⟨xs, hl⟩, q⟩⟩ => ?_)
  subst exl
  cases r1
  obtain ⟨its, _, pl, _⟩ := I1.list hl
  refine wpAny_pyIter_list pl.isList ?_
  generalize hit : s1.heap.objs.size = it
  generalize hs2 : ({ s1 with heap := s1.heap.push { cls := .type "list_iterator", data := .fields #[.ref l, .int 0 0] } } : Shared) = s2
  have h2 : s2.heap = s1.heap.push { cls := .type "list_iterator", data := .fields #[.ref l, .int 0 0] } := by rw [← hs2]
  have I2 : Inv X pins σ H2 s2 := by
    rw [← hs2]
    exact I1.kept (t' := s1.toks) fun b o e => Heap.get?_push_of_some _ e
  have st2 : s2.heap.IsListIter it l 0 := by
    rw [h2, ← hit]
    exact ⟨_, Heap.get?_push_size _ rfl, rfl, rfl⟩
  have f2 : FpOk X pins H2 it := by
    have := I1.fpOk (b := s1.heap.objs.size) (Nat.le_refl _) (I1.hok.fresh (Nat.le_refl _))
    rw [hit] at this
    exact this
  refine wpAny_newObj_type (newEnv_comp ?_) (by show 0 ≤ sizeLine; decide)
  generalize hD : s2.heap.objs.size = D
  have hDn : H2 D = none := I2.hok.fresh (Nat.le_of_eq hD)
  obtain ⟨V, ⟨m0, w0⟩, turn⟩ := q D hDn
  generalize hs3 : ({ s2 with heap := s2.heap.push { cls := .type "list", data := .seq ([] : List Value).toArray } } : Shared) = s3
  have h3 : s3.heap = s2.heap.push { cls := .type "list", data := .seq ([] : List Value).toArray } := by rw [← hs3]
  have I3 : Inv X pins σ (upd H2 D (.lst [])) s3 := by
    rw [← hs3]
    refine I2.laid (t' := s2.toks) (fun b o e => Heap.get?_push_of_some _ e) (Nat.le_of_eq hD) ⟨Nat.zero_le _, [], 0, .nil, ?_⟩
    rw [← hD]
    exact Heap.get?_push_size _ rfl
  have ilt : it < s2.heap.objs.size := by rw [h2, Heap.size_push, hit]; exact Nat.lt_succ_self _
  have f3 : FpOk X pins (upd H2 D (.lst [])) it := ⟨by rw [upd_ne (by rw [← hD]; exact Nat.ne_of_lt ilt)]; exact f2.1, f2.2⟩
  have st3 : s3.heap.IsListIter it l 0 := st2.at fun o e => by rw [h3]; exact Heap.get?_push_of_some _ e
  have I4 := block_start (fp := [it]) I3 ok hN fun b hb => by
    have e : b = it := by simpa using hb
    subst e
    exact ⟨f3, by rw [h3, Heap.size_push]; exact Nat.lt_succ_of_lt ilt⟩
  generalize hcl : cellsFrom (s3.heap.objs.size + 1) scope.names (cloFrom X.env.cells scope.names []) = cl at I4
  have pg := hg s3 (upd H2 D (.lst [])) s3.heap.objs.size cl [it]
  have pt := ht s3 (upd H2 D (.lst [])) s3.heap.objs.size cl [it]
  have pe := he s3 (upd H2 D (.lst [])) s3.heap.objs.size cl [it]
  have P3 := I3.pin p (List.mem_append_left _ hpn)
  have nst : p.1 ∉ frs X.stack := fun z => (List.mem_cons.mp (I3.stkSub p.1 z)).elim P3.2.2.1 P3.2.2.2.1
  have nit : p.1 ≠ it := f3.2.2.2.2.2 p (List.mem_append_left _ hpn)
  show codeAny _ _ (.compStart (.ListComp elt [⟨tg, iter, ifs, 0⟩] scope pos) 0 (.ref it) (.ref D) (compEnvC scope cl s3.heap.objs.size X.env)) (compPost (model X.prog X.w) X.A X.xe none _ (.ref D) s3.heap.objs.size) { s3 with heap := pushCells (s3.heap.push { cls := .type "dict", data := .dict #[] }) scope.names }
  generalize hce : compEnvC scope cl s3.heap.objs.size X.env = ce at I4 pg pt pe ⊢
  have cL : ce.locals = s3.heap.objs.size := by rw [← hce]; rfl
  have nloc : p.1 ≠ ce.locals := by rw [cL]; exact Nat.ne_of_lt (Heap.lt_size P3.1)
  generalize hH3 : upd H2 D (.lst []) = H3 at I3 I4 pg pt pe w0 f3 P3
  generalize hs4 : ({ s3 with heap := pushCells (s3.heap.push { cls := .type "dict", data := .dict #[] }) scope.names } : Shared) = s4 at I4 ⊢
  have st4 : s4.heap.IsListIter it l 0 := st3.at fun o e => by rw [← hs4]; exact pushCells_keeps _ _ _ _ (Heap.get?_push_of_some _ e)
  have hot : ∀ {σ' : L2.St} {H' : Hp} {s' : Shared}, Inv (X.blk s3 H3 scope ce [it]) [] σ' H' s' → Inv (X.blk s3 H3 scope ce [it]) [p] σ' H' s' := fun J => blk_pin P3.1 P3.2.1 nst nit nloc P3.2.2.2.2 J
  have fpB : ∀ {σ' : L2.St} {H' : Hp} {s' : Shared}, Inv (X.blk s3 H3 scope ce [it]) [] σ' H' s' → H' it = none → FpOk (X.blk s3 H3 scope ce [it]) [] H' it := fun J hn =>
    ⟨hn, (J.ok.exf it (by simp)).1, J.ok.exfs it (by simp), .inl (by simp), fun x c e => (J.ok.exf it (by simp)).2 x c e, fun q hq => absurd (show q ∈ ([] : List (Addr × Obj)) ++ [] from hq) (by simp)⟩
  have loop : codeAny (model X.prog X.w) X.A (.compLoop (.ListComp elt [⟨tg, iter, ifs, 0⟩] scope pos) 0 (.ref it) (.ref D) ce) (compPost (model X.prog X.w) X.A X.xe none (EP X pins σ Q) (.ref D) s3.heap.objs.size) s4 := by
    refine compLoop_any (fun n s' => ∃ i H', Inv (X.blk s3 H3 scope ce [it]) [] (wipe σ (own.map (·.2))) H' s' ∧ s'.heap.IsListIter it l i ∧ H' it = none ∧ V i n H') ?_ m0 ⟨0, H3, I4, st4, f3.1, w0⟩
    rintro n s5 ⟨i, H5, I5, st5, n5, w5⟩
    have F5 := fpB I5 n5
    rcases turn i n H5 w5 with ⟨⟨ys, hy, hlen⟩, qq⟩ | ⟨⟨ys, y, hy, hyi⟩, Nx, hNx, step⟩
    · obtain ⟨its5, rv5, pl5, _⟩ := I5.list hy
      have le5 := rv5.length
      refine thnF (lst_endH (hot_at (X := X.blk s3 H3 scope ce [it]) h1 (by simp) (hot I5)) nit st5 pl5.isList (by simp; omega) fun h' eb => ?_) fun r s6 z => z
      have I6 : Inv (X.blk s3 H3 scope ce [it]) [] (wipe σ (own.map (·.2))) H5 { s5 with heap := h' } := I5.turned (t' := s5.toks) (fun b o hb e => eb b o hb e) F5.1 F5.2.1 F5.2.2.2.1 F5.2.2.2.2.1 F5.2.2.2.2.2
      have I7 : Inv X pins σ H5 { s5 with heap := h' } := I3.call' (ch := [it]) I6.os I6.base I6.hok I6.bare fun b hb => by
        have e : b = it := by simpa using hb
        subst e
        exact ⟨f3.2.2.2.1, f3.2.1, f3.2.2.2.2.1, f3.2.2.2.2.2⟩
      have nC : H5 s3.heap.objs.size = none := by
        have z : H5 ce.locals = none := I6.free
        rw [cL] at z
        exact z
      obtain ⟨mm, hn, _⟩ := I6.loc
      have hn : Heap.Ns h' ce.locals mm := hn
      rw [cL] at hn
      obtain ⟨g0, g1, g2, g3, g4, g5⟩ := I3.fpOk (b := s3.heap.objs.size) (Nat.le_refl _) nC
      exact ⟨mm, hn, fun h'' sb => ⟨.ref D, H5, I7.turned (t' := s5.toks) (fun b o hb e => (sb.2 b hb).trans e) g0 g1 g3 g4 g5, rfl, qq⟩⟩
    · obtain ⟨its5, rv5, pl5, _⟩ := I5.list hy
      obtain ⟨u, hu, ru⟩ := rv5.get hyi
      refine thnF (wpAny_pyNext_list_item st5 pl5.isList (x := u) (by simpa using hu) fun h' st6 sb => ?_) fun r s6 z => z
      have I6 : Inv (X.blk s3 H3 scope ce [it]) [] (wipe σ (own.map (·.2))) H5 { s5 with heap := h' } := I5.turned (t' := s5.toks) (fun b o hb e => (sb.2 b hb).trans e) F5.1 F5.2.1 F5.2.2.2.1 F5.2.2.2.2.1 F5.2.2.2.2.2
      obtain ⟨oi, ei, ci, di⟩ := id st6
      refine thnF (Q := fun _ s7 => s7 = { s5 with heap := h' }) (go_of (s := { s5 with heap := h' }) ei ci di (by decide) rfl) fun _ s7 es7 => ?_
      subst es7
      have J6 : Inv (X.blk s3 H3 scope ce [it]) [p, (it, oi)] (wipe σ (own.map (·.2))) H5 { s5 with heap := h' } := I6.pins_of fun z hz => by
        rcases List.mem_cons.mp hz with e | e
        · rw [e]
          exact (hot I6).pin p (by simp)
        · have e' : z = (it, oi) := by simpa using e
          rw [e']
          exact ⟨ei, n5, F5.2.1, F5.2.2.1, fun v q => by rw [di] at q; cases q⟩
      refine thnF (pg [p, (it, oi)] _ _ H5 y u _ h1 (by simp) J6 ru (step y H5 ⟨rfl, fun zs hz => by rw [I5.list_inj hz hy]; exact hyi⟩)) fun _ s8 ⟨σ8, H8, I8, hw8, q8⟩ => ?_
      refine thnF (pt.run _ s8 σ8 H8 _ I8 q8) fun b s9 ⟨H9, I9, q9⟩ => ?_
      have fin : ∀ {s' : Shared} {H' : Hp}, Inv (X.blk s3 H3 scope ce [it]) [p, (it, oi)] σ8 H' s' → Nx H' → ∃ m, m < n ∧ ∃ i H', Inv (X.blk s3 H3 scope ce [it]) [] (wipe σ (own.map (·.2))) H' s' ∧ s'.heap.IsListIter it l i ∧ H' it = none ∧ V i m H' := fun {s' H'} J nx => by
        obtain ⟨m', hm, w'⟩ := hNx H' nx
        have pi := J.pin (it, oi) (by simp)
        have hl8 : (wipe σ (own.map (·.2))).length = σ8.length := by rw [← hw8, wipe_length]
        have J0 : Inv (X.blk s3 H3 scope ce [it]) [] σ8 H' s' := J.pins_of fun z hz => by cases hz
        exact ⟨m', hm, i + 1, H', J0.weak hl8 (fun j v e => by rw [← hw8] at e; exact (wipe_some e).1), ⟨oi, pi.1, ci, di⟩, pi.2.1, w'⟩
      cases b with
      | false =>
        simp only [Bool.false_eq_true, if_false] at q9 ⊢
        exact fin I9 q9
      | true =>
        simp only [if_true] at q9 ⊢
        refine thnF (pe.run _ s9 σ8 H9 _ I9 q9) fun z s10 ⟨yv, HA, IA, rA, acc, hDA, hzA, nx⟩ => ?_
        exact app_ok (X := X.blk s3 H3 scope ce [it]) IA hDA hzA rA fun s11 IB => fin IB nx
  exact codeAny_compStart_list loop (wpAny_pyIter_listiter st4 loop)
end Pv
end
section
set_option linter.all false
set_option maxRecDepth 100000
set_option maxHeartbeats 4000000
namespace Pv
open PySem PySem.Spec PySem.SeqAt PyProof.Rows L2 LamX

/-! Pv23: isinstance of a caught refusal that bears a dict -/
section
open PySem.W PySem.Calls
variable {prog : Program} {w : World} {A : Around} {E : Value → Shared → Prop} {s : Shared} {K : Frag} {x D : Addr} {ox : Obj} {od : Option Obj}
theorem find_cls (c : ExcC K D) : findObj K D od "__class__" = some (.bind (.builtin "getset_descriptor.__get__") (.builtin "object.__class__")) := by
  obtain ⟨cd, hc, _⟩ := any_some c.hd
  unfold findObj
  rw [hc, Option.bind_some, c.ha, Option.bind_some]
  simp [c.hn, c.ht]
theorem cls_exc {Q : Option Value → Shared → Prop} (c : ExcC K D) (X : K.In s.heap) (I : InstAt s.heap x ox D od) (h : Q (some (.ref D)) { s with toks := s.toks + 1 }) : wpAny (model prog w) A (getAttr? (.ref x) "__class__") Q E s := by
  obtain ⟨hp, g, d, t, os⟩ := s
  have T0 := I.type (M := model prog w)
  have T1 := looks_findIn (M := model prog w) X c.hg
  have T2 := looks_findIn (M := model prog w) X c.hk
  have T3 := looks_find (M := model prog w) X I (find_cls c)
  have sub : Looks (model prog w) hp (isInstance (.ref x) (.type "BaseException")) true := T0.andThen (looks_subIn X c.hs)
  have n2 : (Value.builtin "BaseException.__getattribute__" == Value.builtin "object.__getattribute__") = false := by decide +kernel
  have n1 : (onTheHeap (Value.ref D) && Value.builtin "BaseException.__getattribute__" == Value.builtin "object.__getattribute__") = false := by rw [n2]; rfl
  have n0 : (false && onTheHeap (Value.builtin "BaseException.__getattribute__")) = false := rfl
  unfold getAttr? getAttrBy? getAttrBy
  refine wpAny_bind (wpAny_mkText (wpAny_bind (wpAny_attempt (wpAny_holding (wpAny_bind (T0.at (wpAny_bind (T1.at ?_))))))))
  show wpAny _ _ (if (onTheHeap (Value.ref D) && Value.builtin "BaseException.__getattribute__" == Value.builtin "object.__getattribute__") = true then _ else _) _ _ _
  rw [n1, if_neg Bool.false_ne_true]
  unfold getAttrByItsOwn hookBefore
  refine wpAny_bind ?_
  rw [if_pos (show onTheHeap (Value.ref D) = true from rfl)]
  refine T2.at (wpAny_bind (wpAny_attempt (wpAny_holding ?_)))
  unfold callGetattribute
  rw [n0, if_neg Bool.false_ne_true]
  unfold boundAndCalled
  rw [PySem.F.excAttr_ValueError.ga.bind (.ref x)]
  refine wpAny_bind (wpAny_pure ?_)
  show wpAny _ _ (call (.builtin "BaseException.__getattribute__") [.ref x, .str "__class__" t]) _ _ _
  refine wpAny_call (codeAny_call_builtin PySem.F.excAttr_ValueError.ga.plain PySem.F.entry_bexc_ga ?_)
  refine @check_slot (model prog w) _ _ ⟨hp, g, d, t + 1, os⟩ "BaseException.__getattribute__" "BaseException" "__getattribute__" (.ref x) [.str "__class__" t] [] _ (by decide +kernel) (by decide +kernel) sub (PySem.F.args_bexc_ga (.ref x) (.str "__class__" t)) ?_
  unfold Builtin.«object.__getattribute__»
  refine wpAny_bind (wpAny_of_eq (a := ((Value.ref x : Value), [Value.str "__class__" t])) (by first | rfl | (simp only [slotArgs]; rfl)) ?_)
  refine wpAny_bind (wpAny_pure (wpAny_bind (T0.at (wpAny_bind (T3.at ?_)))))
  show wpAny _ _ (holding [Value.builtin "object.__class__"] (call (.builtin "getset_descriptor.__get__") [.builtin "object.__class__", .ref x, .ref D]) >>= ret) _ _ _
  refine wpAny_bind (wpAny_holding (wpAny_call (class_get (s := ⟨hp, g, d, t + 1, os⟩) (ox := ox) (od := od) X I c.hm ?_)))
  refine wpAny_pure ?_
  show wpAny _ _ (handedOut (.ref D)) _ _ _
  rw [handedOut_of (v := .ref D) rfl]
  first
    | exact wpAny_pure (wpAny_pure h)
    | exact wpAny_pure h
    | exact wpAny_pure (wpAny_bind (wpAny_pure (wpAny_pure h)))
theorem kitx_exc (c : ExcC K D) : KitX K (.ref x) (.ref D) (fun h => InstAt h x ox D od) where
  ty := fun _ _ _ I => I.type
  it := fun _ _ X _ => by
    obtain ⟨cdD, hcD, _⟩ := any_some c.hd
    unfold clsIn at hcD
    split at hcD
    · rename_i a1 a2 a3 a4 ho
      intro A2 Q2 E2 s2 k q
      unfold isType loadHead
      exact wpAny_bind (wpAny_loadPart (k _ _ (X _ _ ho)) (wpAny_pure q))
    · cases hcD
  ne := fun h tp dd its n sl X htp => by
    obtain ⟨cdD, hcD, _⟩ := any_some c.hd
    refine Bool.eq_false_iff.mpr fun q => ?_
    have e : D = tp := Value.ref.inj (beq_iff_eq.mp q)
    subst e
    unfold clsIn at hcD
    split at hcD
    · rename_i a1 a2 a3 a4 ho
      cases (X _ _ ho).symm.trans htp
    · cases hcD
  ca := fun X I k => cls_exc c X I k
end
/-- isinstance(e, c), e the refusal that the suite holds, its dict at d -/
def rIsF (K : PySem.W.Frag) (D a d : Addr) : List V → Hp → VK → Prop := fun xs H Q => ∃ (c : V) (cv : Value) (b : Bool) (fs : List (Str × V)), xs = [.ref a, c] ∧ (∀ u, RelV c u → u = cv) ∧ PySem.W.kitOne K (.ref D) cv = some b ∧ H d = some (.xd fs) ∧ Q (.bl b) H
theorem call_isF {X : Cx} {a D d : Addr} {oe : Obj} {pn : List (Addr × Obj)} (C : ExcC X.K D) (hz : Zc (.ref D) (some d) oe) (hf : ∃ vs, oe.data = .fields vs) : CallR (X.suite a ((a, oe) :: pn)) (.builtin "isinstance") (rIsF X.K D a d) := by
  intro pins s σ H xs us Q I r ⟨c, cv, b, fs, ex, hcv, e, hd, q⟩
  subst ex
  cases r with
  | cons rx rr =>
    cases rr with
    | cons rt rr =>
      cases rr
      cases rx
      have ec := hcv _ rt
      subst ec
      obtain ⟨hget, _⟩ := I.pin (a, oe) (List.mem_append.mpr (.inl List.mem_cons_self))
      obtain ⟨vs, hv⟩ := hf
      have hx : ObjOk X.prog X.w H s.heap d (.xd fs) := I.hok d _ hd
      obtain ⟨mA, hns, _⟩ := hx
      obtain ⟨oD, ho, _⟩ := lookIn_ns hns
      have J : PySem.W.InstAt s.heap a oe D (some oD) := ⟨hget, hz.1, by unfold PySem.W.notCls; rw [hv] <;> rfl, by rw [hz.2]; exact ho⟩
      exact PySem.W.kia_one (kitx_exc C) I.kIn J e (fun z => nomatch z) fun tk => ⟨.bl b, H, I.kept (t' := tk) fun _ _ z => z, rfl, q⟩
end Pv
end
section
set_option linter.all false
set_option maxRecDepth 100000
set_option maxHeartbeats 4000000
namespace Pv
open PySem PySem.Spec PySem.SeqAt PyProof.Rows L2 LamX

/-! Pv24: a lambda handed to a def that calls it; what it lets out is known to have no context -/
section
variable {X : Cx} {pins : List (Addr × Obj)} {σ : L2.St} {H HZ : Hp} {s s1 : Shared}
/-- the heap behind the making of a lambda -/
structure LamH (T : List (Addr × Str)) (H H1 : Hp) : Prop where
  ext : ExtN H H1
  live : ∀ b o, H b = some o → ∃ o', H1 b = some o'
  tabs : Tabs T H1
theorem lamMake {T : List (Addr × Str)} {c P : Addr} {ps0 : Arguments} {body : Expr} {scope : Scope} {pos : Pos} {E Q : Value → Shared → Prop} (I : Inv X pins σ H s) (TB : TabB X.base X.mg c P) (hcode : X.env.code = .ref c) (hm : (P, X.env.qual ++ "<lambda>") ∈ T)
    (hu : ∀ p ∈ T, p.1 = P → p.2 = X.env.qual ++ "<lambda>") (hT : Tabs T H) (hdef : defaultsOf ps0 X.env = ([], [])) (hfree : ∀ y ∈ scope.names, y.2 = .free → ∃ c, X.env.cells.lookup y.1 = some c)
    (go : ∀ (f c2 : Addr) (pm ct : Value) (H1 : Hp) (s2 : Shared), Inv X pins σ H1 s2 → LamH T H H1 → s2.heap.get? f = some (PySem.W.kla_obj "<lambda>" (X.env.qual ++ "<lambda>") ps0 body scope (cloFrom X.env.cells scope.names []) pm c2 ct) → H1 f = none → f ∉ frs X.stack →
      H1 c2 = some (CodeO c2 (X.env.qual ++ "<lambda>")) → Q (.ref f) s2) : wpAny (model X.prog X.w) X.A (eval (.Lambda ps0 body scope pos) X.env) Q E s := by
  obtain ⟨tb, tP, tok, tam⟩ := hT _ hm
  refine PySem.W.kla_eval hdef ?_
  have atP : s.heap.get? P = some { cls := .none, data := .fields tb } := I.hok P _ tP
  have young : ∀ f, s.heap.objs.size ≤ f → f ∉ frs X.stack := fun f hf z => (List.mem_cons.mp (I.stkSub _ z)).elim
    (fun e => by have lt := I.lt; rw [← e] at lt; exact absurd lt (Nat.not_lt.mpr hf)) fun e => I.nofs hf e
  cases hc : codeAmong pos tb.toList with
  | some cv =>
    obtain ⟨c2, e, hco⟩ := tam pos cv hc
    subst e
    refine PySem.W.kla_makeFunctionHit (mg := X.mg) (c := c) (P := P) (ps := tb) (closure_ok hfree) I.ok.glob (I.mod.glob.keeps I.bk) hcode (TB.code.keeps I.bk) atP tok hc (TB.bm.keeps I.bk) fun ct h2 tk kp hsz => ?_
    have J : Inv X pins σ H { s with heap := h2.push (PySem.W.kla_obj "<lambda>" (X.env.qual ++ "<lambda>") ps0 body scope (cloFrom X.env.cells scope.names []) ((X.mg "__name__").getD .none) c2 ct), toks := tk } := I.kept fun b o e => Heap.get?_push_of_some _ (kp b o e)
    exact go h2.objs.size c2 _ ct H _ J ⟨ExtN.refl H, fun b o e => ⟨o, e⟩, hT⟩ (Heap.get?_push_size _ rfl) (I.hok.fresh hsz) (young _ hsz) hco
  | none =>
    refine PySem.W.kla_makeFunction (mg := X.mg) (c := c) (P := P) (ps := tb) (closure_ok hfree) I.ok.glob (I.mod.glob.keeps I.bk) hcode (TB.code.keeps I.bk) atP tok hc TB.gP (TB.bm.keeps I.bk) fun c2 ct h2 tk kp hge hlt hrec htb => ?_
    obtain ⟨c3, oc, vs, t, e, hoc, hd, hv⟩ := hrec
    cases e
    have hsz : s.heap.objs.size ≤ h2.objs.size := by omega
    have free2 : H c2 = none := I.hok.fresh hge
    have J := inv_table (t' := tk) (more := #[rawInt pos.line, rawInt pos.col, .ref c2]) (h' := h2.push (PySem.W.kla_obj "<lambda>" (X.env.qual ++ "<lambda>") ps0 body scope (cloFrom X.env.cells scope.names []) ((X.mg "__name__").getD .none) c2 ct)) I tP
      (fun b o hb e => Heap.get?_push_of_some _ (kp b o hb e)) (Heap.get?_push_of_some _ htb) hge ⟨oc, vs, t, Heap.get?_push_of_some _ hoc, hd, hv⟩
    have lst : (tb ++ #[rawInt pos.line, rawInt pos.col, .ref c2]).toList = tb.toList ++ [rawInt pos.line, rawInt pos.col, .ref c2] := by simp
    have ext : ExtN H (upd (upd H P (.tbl (tb ++ #[rawInt pos.line, rawInt pos.col, .ref c2]))) c2 (CodeO c2 (X.env.qual ++ "<lambda>"))) := fun b o e n => by
      have nP : b ≠ P := fun z => by
        rw [z, tP] at e
        exact n tb (Option.some.inj e).symm
      rw [upd_ne (ne_of_none e free2), upd_ne nP]
      exact e
    refine go h2.objs.size c2 _ ct _ _ J ⟨ext, fun b o e => ?_, fun p hp => ?_⟩ (Heap.get?_push_size _ rfl) ?_ (young _ hsz) upd_same
    · by_cases z : b = P
      · rw [z, upd_ne (ne_of_none tP free2), upd_same]
        exact ⟨_, rfl⟩
      · rw [upd_ne (ne_of_none e free2), upd_ne z]
        exact ⟨o, e⟩
    · by_cases z : p.1 = P
      · rw [hu p hp z, z]
        refine ⟨_, by rw [upd_ne (ne_of_none tP free2), upd_same], by rw [lst]; exact PySem.TriplesOk_snoc _ _ _ _ tok, fun p2 cv hcv => ?_⟩
        rw [lst] at hcv
        rcases among_app _ tok hcv with y | y
        · obtain ⟨c0, e1, e2⟩ := tam p2 cv y
          exact ⟨c0, e1, ext _ _ e2 codeO_ne⟩
        · exact ⟨c2, y, upd_same⟩
      · obtain ⟨t2, a1, a2, a3⟩ := hT p hp
        refine ⟨t2, by rw [upd_ne (ne_of_none a1 free2), upd_ne z]; exact a1, a2, fun p2 cv hcv => ?_⟩
        obtain ⟨c0, e1, e2⟩ := a3 p2 cv hcv
        exact ⟨c0, e1, ext _ _ e2 codeO_ne⟩
    · rw [upd_ne (Nat.ne_of_gt hlt), upd_ne (Nat.ne_of_gt (Nat.lt_of_lt_of_le (Heap.lt_size atP) hsz))]
      exact I.hok.fresh hsz
/-- the lambda's context, with the wish of L2N -/
def lamN (X : Cx) (A : Around) (outer : List Env) (s : Shared) (H : Hp) (E : XK) (scope : Scope) (f c2 : Addr) : Cx :=
  (lamCx X A outer s H E scope f c2).wish fun e s' => wpAny (model X.prog X.w) (A.deeper (lamEnv X scope s.heap.objs.size f c2)) (leaving (lamEnv X scope s.heap.objs.size f c2) e) (fun _ s'' => L2N.CX X.prog X.w outer H s E e s'') (fun e' s'' => L2N.CX X.prog X.w outer H s E e' s'') s'
/-- the receiver's context -/
abbrev rcv (X : Cx) (Ng : List Str) (x : Str) (sg : Scope) (g : Addr) (cdg : Value) (s : Shared) (H : Hp) : Cx := cxOf C8.CX0 X.prog X.w X.K X.mg X.base Ng x sg g cdg X.A X.stack s H C8.E0
theorem lamAct {Ng : List Str} {qg : Str} {sg : Scope} {g f c2 : Addr} {cdg pm ct : Value} {ps0 : Arguments} {body : Expr} {scope : Scope} {k i : Nat} {a : Str} {pn : List (Addr × Obj)} {xe : Value → Shared → Prop} {W : WX} {E : XK} {tb : TE} {p1 p2 : Pos}
    (I : Inv X pins σ H s) (L : LamS X.env.scope scope) (hf : s.heap.get? f = some (PySem.W.kla_obj "<lambda>" (X.env.qual ++ "<lambda>") ps0 body scope (cloFrom X.env.cells scope.names []) pm c2 ct)) (hfn : H f = none) (hfr : f ∉ frs X.stack)
    (hbind : bindArgs (PySem.W.kla_fn "<lambda>" (X.env.qual ++ "<lambda>") ps0 body scope (cloFrom X.env.cells scope.names []) pm (.ref c2) ct) ⟨[], []⟩ = pure []) (tk : L2N.Takes ((rcv X Ng qg sg g cdg s H).tr pn xe) W)
    (hW : ∀ cls d σ' H', E cls d H' → W cls d σ' H') (hr : Room (k + 1) (X.A.deeper (envOfC qg sg s.heap.objs.size g cdg)))
    (hbody : ∀ (A : Around) (outer : List Env) (s : Shared) (H : Hp), Room k (A.deeper (lamEnv X scope s.heap.objs.size f c2)) → PE (lamN X A outer s H E scope f c2) body tb) (hN : Ng[i]? = some a) (hv : Vis sg a) (hd : (a == ("__debug__" : Str)) = false) (hcd : (a == ("__classdict__" : Str)) = false) :
    PE ((rcv X Ng qg sg g cdg s H).tr pn xe) (.Call (.Name a p1) [] [] p2) (fun σZ HZ Q => σZ[i]? = some (some (.ref f)) ∧ HZ c2 = some (CodeO c2 (X.env.qual ++ "<lambda>")) ∧ tb σ HZ Q) := by
  refine ⟨fun pinsZ sZ σZ HZ Q IZ ⟨hs, hc, ht⟩ => ?_⟩
  refine wpAny_Call_Name_kw (thn ((pe_var (pos := p1) (i := i) hN hv hd hcd).run pinsZ sZ σZ HZ (fun v H1 => v = .ref f ∧ H1 = HZ) IZ ⟨.ref f, hs, rfl, rfl⟩) fun u s1 ⟨v, H1, I1, r1, ev, eH⟩ => ?_)
  subst ev eH
  obtain rfl : u = Value.ref f := r1
  have at1 : s1.heap.get? f = some (PySem.W.kla_obj "<lambda>" (X.env.qual ++ "<lambda>") ps0 body scope (cloFrom X.env.cells scope.names []) pm c2 ct) := I1.base.keep f _ hf hfn hfr (fun z => nomatch (show f ∈ ([] : List Addr) from z))
  refine PySem.W.callWith_F0 ⟨_, _, _, _, at1⟩ ?_
  obtain ⟨⟨oc, vs, t, hoc, hdc, hvc⟩, _, _⟩ := I1.hok c2 _ hc
  have rc : codeAny (model X.prog X.w) (X.A.deeper (envOfC qg sg s.heap.objs.size g cdg)) (.call (.ref f) ⟨[], []⟩) (CR (L2N.CX X.prog X.w) (envOfC qg sg s.heap.objs.size g cdg :: X.stack) X.prog X.w H1 s1 Q E) s1 := by
    refine PySem.W.kla_callFunE hr.depth at1 rfl L.co L.gen rfl ⟨c2, oc, vs, t, rfl, hoc, hdc, hvc⟩ ?_
    rw [hbind]
    refine wpAny_pure (wpAny_newFunctionEnv (fun y hy => (L.own y hy).2) (fun y hy => absurd hy (by simp)) (fun h2 hns hsb => ⟨I1.nolimit.fresh _ hsb, ?_⟩) L.kind)
    show codeAny _ _ (.expr body (lamEnv X scope s1.heap.objs.size f c2)) _ _
    have J0 : Inv (lamCx X (X.A.deeper (envOfC qg sg s.heap.objs.size g cdg)) (envOfC qg sg s.heap.objs.size g cdg :: X.stack) s1 H1 E scope f c2) [] σ H1 { s1 with heap := h2, toks := s1.toks + ([] : List (Str × Value)).length } :=
      lam_start2 I L I1.env0 hr.hd I1.base hns fun b o e => hsb.extBut b o (Nat.ne_of_lt (Heap.lt_size e)) (Heap.get?_push_of_some _ e)
    have J := J0.wish fun e s' => wpAny (model X.prog X.w) ((X.A.deeper (envOfC qg sg s.heap.objs.size g cdg)).deeper (lamEnv X scope s1.heap.objs.size f c2)) (leaving (lamEnv X scope s1.heap.objs.size f c2) e) (fun _ s'' => L2N.CX X.prog X.w (envOfC qg sg s.heap.objs.size g cdg :: X.stack) H1 s1 E e s'') (fun e' s'' => L2N.CX X.prog X.w (envOfC qg sg s.heap.objs.size g cdg :: X.stack) H1 s1 E e' s'') s'
    refine PySem.W.kla_codeExpr (wpAny_mono ((hbody _ _ s1 H1 (hr.deeper _)).run [] _ _ H1 Q J ht) (fun v s' ⟨w2, H2, J2, rv, q⟩ => ⟨w2, H2, J2.os, J2.bare, J2.base, J2.hok, rv, q⟩) fun e s' hq => hq)
  refine wpAny_call (codeAny_mono rc fun r s' hq => ?_)
  match r, hq with
  | .error e, hq => exact L2N.passes_call tk hW pinsZ σZ H1 s1 e s' I1 hq
  | .ok (.ret u), hq => exact I1.after hq
end
end Pv
end
section
set_option linter.all false
set_option maxRecDepth 100000
set_option maxHeartbeats 4000000
namespace Pv
open PySem PySem.Spec PySem.SeqAt PyProof.Rows L2 LamX HotX L2H

/-! Pv25: the suite that tells which refusal it is -/
/-- the found list: names and truths -/
inductive Prs (H : Hp) : List (Str × Bool) → List V → Prop where
  | nil : Prs H [] []
  | snoc {l vs} {n : Str} {b : Bool} {T : Addr} : Prs H l vs → H T = some (.tup [.str n, .bl b]) → Prs H (l ++ [(n, b)]) (vs ++ [.ref T])
theorem Prs.keep {H H' : Hp} (k : ∀ T xs, H T = some (.tup xs) → H' T = some (.tup xs)) {l : List (Str × Bool)} {vs : List V} (h : Prs H l vs) : Prs H' l vs := by
  induction h with
  | nil => exact .nil
  | snoc _ e ih => exact .snoc ih (k _ _ e)
theorem Prs.len {H : Hp} {l : List (Str × Bool)} {vs : List V} (h : Prs H l vs) : vs.length = l.length := by
  induction h with
  | nil => rfl
  | snoc _ _ ih => rw [List.length_append, List.length_append, ih]; rfl
theorem Prs.get {H : Hp} {l : List (Str × Bool)} {vs : List V} (h : Prs H l vs) : ∀ (i : Nat) (v : V), vs[i]? = some v → ∃ n b T, l[i]? = some (n, b) ∧ v = .ref T ∧ H T = some (.tup [.str n, .bl b]) := by
  induction h with
  | nil => intro i v h; simp at h
  | @snoc l vs n b T p e ih =>
    intro i v h
    have hl := p.len
    rcases Nat.lt_trichotomy i vs.length with q | q | q
    · rw [List.getElem?_append_left q] at h
      obtain ⟨n', b', T', h1, h2⟩ := ih i v h
      exact ⟨n', b', T', by rw [List.getElem?_append_left (by omega)]; exact h1, h2⟩
    · subst q
      rw [List.getElem?_append_right (Nat.le_refl _)] at h
      simp at h
      exact ⟨n, b, T, by rw [hl, List.getElem?_append_right (Nat.le_refl _)]; simp, h.symm, e⟩
    · rw [List.getElem?_eq_none (by rw [List.length_append]; simp; omega)] at h; cases h
def pick (l : List (Str × Bool)) : List Str := (l.filter (·.2)).map (·.1)
/-- what the classes say of one another -/
structure ErrK (K : PySem.W.Frag) (ca : Nat → Option Addr) (R : Addr) (hs : List (Str × Nat)) (j : Nat) (A : Addr) : Prop where
  exc : ExcC K A
  xf : XfC K A
  what : PySem.W.findIn K (.ref A) ("what" : Str) = some none
  sup : PySem.W.exmOne K (.ref A) (.ref R) = some true
  is_ : ∀ p ∈ hs, ∃ B, ca p.2 = some B ∧ PySem.W.kitOne K (.ref A) (.ref B) = some (p.2 == j)
/-- the texts of the receiver -/
structure Nms where
  a : Str
  r : Str
  fd : Str
  nm : Str
  is_ : Str
abbrev Nms.N (m : Nms) : List Str := [m.a, m.r, m.fd, m.nm, m.is_]
def suEndC (m : Nms) (sg : Scope) (su : List Stmt) : Bool := match su with
  | [.Return (some (.Tuple [.Call (.Attribute (.Constant (.str sp) _ _) jn ap) [.ListComp (.Name n1 _) [⟨.Tuple [.Name n2 _, .Name i1 _] _ _, .Name f1 _, [.Name i2 _], 0⟩] scope _] [] cp, .Attribute (.Name r1 _) w _] _ _)) _] =>
    decide (sp = " ") && decide (jn = "join") && (ap.endLine == cp.line) && decide (n1 = m.nm) && decide (n2 = m.nm) && decide (i1 = m.is_) && decide (i2 = m.is_) && decide (f1 = m.fd) && decide (r1 = m.r) && decide (w = "what") && blkC m.N sg scope [(m.nm, 3), (m.is_, 4)] &&
      decide ((relS scope sg).names.lookup m.nm = some .local) && decide ((relS scope sg).names.lookup m.is_ = some .local)
  | _ => false
def suOneC (m : Nms) (sg : Scope) (errs : List Str) (n : Str) (c : Nat) (st : Stmt) : Bool := match st with
  | .Expr (.Call (.Attribute (.Name f1 _) an ap) [.Tuple [.Constant (.str n1) _ _, .Call (.Name isi _) [.Name r1 _, .Name C1 _] [] _] _ _] [] cp) _ =>
    decide (f1 = m.fd) && decide (an = "append") && (ap.endLine == cp.line) && decide (n1 = n) && decide (isi = "isinstance") && decide (r1 = m.r) && decide (errs[c]? = some C1) && glC sg C1 && okNm C1
  | _ => false
def suC (m : Nms) (sg : Scope) (errs : List Str) : List (Str × Nat) → List Stmt → Bool
  | [], su => suEndC m sg su
  | (n, c) :: hs, st :: su => suOneC m sg errs n c st && suC m sg errs hs su
  | _ :: _, [] => false
/-- what is known of the place -/
structure Plc (m : Nms) (sg : Scope) (Y : Cx) (p : Addr × Obj) : Prop where
  nm : Y.N = m.N
  nd : m.N.Nodup
  sc : Y.env.scope = sg
  hot : Hot1 Y.A p
  pn : p ∈ Y.pn
  r : sg.names.lookup m.r = some .local
  fd : sg.names.lookup m.fd = some .local
  dbg : ∀ y ∈ m.N, okNm y = true
  isi : glC sg "isinstance" = true ∧ Y.mg "isinstance" = none
section
variable {m : Nms} {sg : Scope} {Y : Cx} {p : Addr × Obj} {K : PySem.W.Frag}
theorem Plc.var (P : Plc m sg Y p) {i : Nat} {y : Str} {pos : Pos} (h : m.N[i]? = some y) (hl : sg.names.lookup y = some .local) : PE Y (.Name y pos) (tVar i) := by
  obtain ⟨g1, g2⟩ := okNm_of (P.dbg y (List.mem_of_getElem? h))
  exact pe_var (by rw [P.nm]; exact h) (.inl (by rw [P.sc]; exact hl)) g1 g2
/-- the wanted end of the suite -/
def EndSu (Hs : Hp) (s : Str) (vw : V) (rt : VK) : Prop := ∀ v H', (∀ b o, Hs b = some o → H' b = some o) → (∃ q, v = .ref q ∧ Hs q = none ∧ H' q = some (.tup [.str s, vw])) → rt v H'
def rJn (K : PySem.W.Frag) : V → List V → Hp → VK → Prop := fun x xs H Q => ∃ a p, ∃ ys : List Str, x = .str a ∧ xs = [.ref p] ∧ (SqL K H p (ys.map V.str) ∨ SqT K H p (ys.map V.str)) ∧ (ys.map (·.length)).sum + ys.length * a.length ≤ 16777216 ∧ Q (.str (Txt.join a ys)) H
theorem pick_snoc (l : List (Str × Bool)) (n : Str) (b : Bool) : pick (l ++ [(n, b)]) = pick l ++ (if b = true then [n] else []) := by
  unfold pick
  rw [List.filter_append, List.map_append]
  cases b <;> rfl
theorem pick_len (l : List (Str × Bool)) : (pick l).length ≤ l.length := by
  unfold pick
  rw [List.length_map]
  exact List.length_filter_le _ _
/-- what the last line is read from -/
def SuSt (p : Addr × Obj) (d : Option Addr) (σ : L2.St) (H : Hp) (l : List (Str × Bool)) (Hs : Hp) (vw : V) : Prop := ∃ (F dd : Addr) (vs : List V), σ[1]? = some (some (.ref p.1)) ∧ σ[2]? = some (some (.ref F)) ∧ σ.length = 5 ∧ d = some dd ∧ H dd = some (.xd [(("what" : Str), vw)]) ∧
  H F = some (.lst vs) ∧ Prs H l vs ∧ Hs F = none ∧ (∀ b o, Hs b = some o → H b = some o)
theorem su_ret (P : Plc m sg Y p) {X0 : Cx} {oe : Obj} {A : Addr} {d : Option Addr} {pn : List (Addr × Obj)} (hY : Y = X0.suite p.1 ((p.1, oe) :: pn)) (hz : Zc (.ref A) d oe) (hf : ∃ vs, oe.data = .fields vs) (xf : XfC Y.K A) (wh : PySem.W.findIn Y.K (.ref A) ("what" : Str) = some none)
    {scope : Scope} {k1 k2 k3 : Nat} {ap cp q1 q2 q3 q4 q5 q6 q7 q8 q9 q10 q11 q12 : Pos} (hap : (ap.endLine == cp.line) = true) (hb : blkC m.N sg scope [(m.nm, 3), (m.is_, 4)] = true) (l1 : (relS scope sg).names.lookup m.nm = some .local) (l2 : (relS scope sg).names.lookup m.is_ = some .local) :
    PS Y (.Return (some (.Tuple [.Call (.Attribute (.Constant (.str " ") k1 q1) "join" ap) [.ListComp (.Name m.nm q2) [⟨.Tuple [.Name m.nm q3, .Name m.is_ q4] k2 q5, .Name m.fd q6, [.Name m.is_ q7], 0⟩] scope q8] [] cp, .Attribute (.Name m.r q9) "what" q10] k3 q11)) q12)
      (fun D σ H => ∃ (l : List (Str × Bool)) (Hs : Hp) (vw : V), SuSt p d σ H l Hs vw ∧ l.length ≤ 1000 ∧ ((pick l).map (·.length)).sum ≤ 1000000 ∧ EndSu Hs (Txt.join " " (pick l)) vw D.rt) := by
  have bs : ∀ (s : Shared) (H : Hp) (C : Addr) (cl : List (Str × Addr)) (fp : List Addr), (Y.blk s H scope (compEnvC scope cl C Y.env) fp).env.scope = relS scope sg := fun s H C cl fp => by show relS scope Y.env.scope = _; rw [P.sc]
  have vB : ∀ (s : Shared) (H : Hp) (C : Addr) (cl : List (Str × Addr)) (fp : List Addr) (i : Nat) (y : Str) (q : Pos), m.N[i]? = some y → (relS scope sg).names.lookup y = some .local → PE (Y.blk s H scope (compEnvC scope cl C Y.env) fp) (.Name y q) (tVar i) := fun s H C cl fp i y q h hl => by
    obtain ⟨g1, g2⟩ := okNm_of (P.dbg y (List.mem_of_getElem? h))
    exact pe_var (by show Y.N[i]? = _; rw [P.nm]; exact h) (.inl (by rw [bs]; exact hl)) g1 g2
  have gB : ∀ (s : Shared) (H : Hp) (C : Addr) (cl : List (Str × Addr)) (fp : List Addr) (i : Nat) (y : Str) (q : Pos), m.N[i]? = some y → (relS scope sg).names.lookup y = some .local → PG (Y.blk s H scope (compEnvC scope cl C Y.env) fp) (.Name y q) (gName i) := fun s H C cl fp i y q h hl =>
    pg_name (by show Y.N.Nodup; rw [P.nm]; exact P.nd) (by show Y.N[i]? = _; rw [P.nm]; exact h) (.inl (by rw [bs]; exact hl)) (.inr (by rw [bs]; exact hl))
  have lc := lcH (X := Y) (p := p) (pos := q8) (tg := .Tuple [.Name m.nm q3, .Name m.is_ q4] k2 q5) (iter := .Name m.fd q6) (ifs := [.Name m.is_ q7]) (elt := .Name m.nm q2) (scope := scope) (own := [(m.nm, 3), (m.is_, 4)]) (tl := tVar 2) (te := tVar 3) (g := gTup Y.K 2 (gCons (gName 3) (gCons (gName 4) gNil))) (tt := fun σ H Q => tVar 4 σ H fun x H' => ∃ k, TruV Y.K x H' k ∧ Q k H') P.hot P.pn (by rw [P.nm]; exact P.nd) (P.var (i := 2) rfl P.fd) (by rw [P.nm, P.sc]; exact blkOk_by hb)
    (fun s H C cl fp => pgh_tup (n := 2) (pgs_cons (gB s H C cl fp 3 m.nm q3 rfl l1) (pgs_cons (gB s H C cl fp 4 m.is_ q4 rfl l2) pgs_nil rfl) rfl) rfl rfl)
    (fun s H C cl fp => pts_one (pt_truth (vB s H C cl fp 4 m.is_ q7 rfl l2) (test_of rfl)))
    (fun s H C cl fp => vB s H C cl fp 3 m.nm q2 rfl l1) (fun _ => rfl)
  have jn : PE Y (.Call (.Attribute (.Constant (.str " ") k1 q1) "join" ap) [.ListComp (.Name m.nm q2) [⟨.Tuple [.Name m.nm q3, .Name m.is_ q4] k2 q5, .Name m.fd q6, [.Name m.is_ q7], 0⟩] scope q8] [] cp) _ :=
    pe_bm PySem.F.plainAttrs_str PySem.F.slot_str_join PySem.F.type_str_join (r := rJn Y.K) mt_join pe_str (pa_cons lc pa_nil rfl) rfl (few_of rfl) hap rfl rfl
  have wt : PE Y (.Attribute (.Name m.r q9) "what" q10) (tXf p.1 (.ref A) d A "what" (tVar 1)) := by
    have v := P.var (i := 1) (pos := q9) rfl P.r
    subst hY
    exact pe_xf xf wh hz hf v rfl
  refine ps_imp (ps_ret (pe_tup (pa_cons jn (pa_cons wt pa_nil rfl) rfl))) fun U σ H h => ?_
  obtain ⟨l, Hs, vw, ⟨F, dd, vs, s1, s2, sl, ed, hd, hF, pr, hsF, kp⟩, lz, pz, fin⟩ := h
  have lv := pr.len
  refine ⟨rfl, .ref F, s2, F, rfl, ⟨vs, .inl (.inl hF)⟩, fun D hD => ?_⟩
  refine lc_it (walk_list (K := Y.K)) (g := gTup Y.K 2 (gCons (gName 3) (gCons (gName 4) gNil))) (tt := fun σ H Q => tVar 4 σ H fun x H' => ∃ k, TruV Y.K x H' k ∧ Q k H') (te := tVar 3) (vs := [3, 4]) (σ := σ)
    (Qd := fun H1 => rJn Y.K (.str " ") [.ref D] H1 fun z H2 => tXf p.1 (.ref A) d A "what" (tVar 1) σ H2 fun w H3 => [z, w].length ≤ sizeLine ∧ ∀ q, H3 q = none → U.rt (.ref q) (upd H3 q (.tup [z, w]))) (fun i H' => H' D = some (.lst ((pick (l.take i)).map V.str)) ∧ ∀ b o, H b = some o → H' b = some o) ⟨upd_same, keep_upd hD⟩ (fun i H' _ q => .inl (.inl (q.2 F _ hF))) ?_ ?_
  · rintro i x H1 H2 hi ⟨q1, q2⟩ ⟨e, hx⟩
    subst e
    obtain ⟨n, b, T, hl, ex, hT⟩ := pr.get i x hx
    have w3 : ∀ (u : Option V), ((wipe σ [3, 4]).set 3 u).length = 5 := fun u => by rw [List.length_set, wipe_length, sl]
    have take1 : l.take (i + 1) = l.take i ++ [(n, b)] := by
      rw [List.take_add_one, hl]; rfl
    refine ⟨T, [.str n, .bl b], ex, .inl (.inl (q2 T _ hT)), rfl, .str n, [.bl b], rfl, .bl b, [], rfl, rfl, ?_, .bl b, ?_, b, rfl, ?_⟩
    · refine wipe_same (by rw [List.length_set, List.length_set, wipe_length]) fun j hj => ?_
      have n3 : 3 ≠ j := fun z => hj (by rw [← z]; simp)
      have n4 : 4 ≠ j := fun z => hj (by rw [← z]; simp)
      rw [List.getElem?_set_ne n4, List.getElem?_set_ne n3]
    · rw [List.getElem?_set_self (by rw [w3]; decide)]
    · cases b with
      | true =>
        rw [if_pos rfl]
        refine ⟨.str n, by rw [List.getElem?_set_ne (by decide), List.getElem?_set_self (by rw [wipe_length, sl]; decide)], _, q1, ?_, ?_, fun c o hc => ?_⟩
        · have := pick_len (l.take i)
          rw [List.length_map]
          have : (l.take i).length ≤ 1000 := by rw [List.length_take]; omega
          have : (1001 : Nat) < sizeLine := by decide
          omega
        · rw [upd_same, take1, pick_snoc, List.map_append]; rfl
        · rw [upd_ne (ne_of_none hc hD)]; exact q2 c o hc
      | false =>
        rw [if_neg Bool.false_ne_true]
        exact ⟨by rw [take1, pick_snoc, q1]; simp, q2⟩
  · rintro H' ⟨q1, q2⟩
    rw [lv, List.take_length] at q1
    refine ⟨" ", D, pick l, rfl, rfl, .inl (.inl (.inl q1)), ?_, .ref p.1, s1, rfl, rfl, dd, _, vw, ed, q2 dd _ hd, rfl, by show 2 ≤ sizeLine; decide, fun q hq => ?_⟩
    · have e1 : (Str.ofString " ").length = 1 := by decide
      have := pick_len l
      rw [e1]
      omega
    · refine fin _ _ (fun b o hb => ?_) ⟨q, rfl, ?_, upd_same⟩
      · rw [upd_ne (ne_of_none (q2 b o (kp b o hb)) hq)]
        exact q2 b o (kp b o hb)
      · cases e : Hs q with
        | none => rfl
        | some o => rw [q2 q o (kp q o e)] at hq; cases hq
end
end Pv
end
section
set_option linter.all false
set_option maxRecDepth 100000
set_option maxHeartbeats 4000000
namespace Pv
open PySem PySem.Spec PySem.SeqAt PyProof.Rows L2 LamX HotX L2H

/-! Pv26: the whole suite, the def that hears -/
section
variable {m : Nms} {sg : Scope} {Y : Cx} {p : Addr × Obj} {K : PySem.W.Frag}
/-- what a suite behind k appended names wants -/
def SuR (p : Addr × Obj) (d : Option Addr) (goal : Str) (done : List (Str × Bool)) (rest : List (Str × Bool)) : TS := fun D σ H => ∃ (Hs : Hp) (vw : V), SuSt p d σ H done Hs vw ∧ (done ++ rest).length ≤ 1000 ∧ ((pick (done ++ rest)).map (·.length)).sum ≤ 1000000 ∧ goal = Txt.join " " (pick (done ++ rest)) ∧ EndSu Hs goal vw D.rt
theorem su_end (P : Plc m sg Y p) {X0 : Cx} {oe : Obj} {A : Addr} {d : Option Addr} {pn : List (Addr × Obj)} (hY : Y = X0.suite p.1 ((p.1, oe) :: pn)) (hz : Zc (.ref A) d oe) (hf : ∃ vs, oe.data = .fields vs) (xf : XfC Y.K A) (wh : PySem.W.findIn Y.K (.ref A) ("what" : Str) = some none)
    {su : List Stmt} {goal : Str} {done : List (Str × Bool)} (h : suEndC m sg su = true) : PSs Y su (SuR p d goal done []) := by
  unfold suEndC at h
  split at h
  · obtain ⟨h, c13⟩ := andE h
    obtain ⟨h, c12⟩ := andE h
    obtain ⟨h, c11⟩ := andE h
    obtain ⟨h, c10⟩ := andE h
    obtain ⟨h, c9⟩ := andE h
    obtain ⟨h, c8⟩ := andE h
    obtain ⟨h, c7⟩ := andE h
    obtain ⟨h, c6⟩ := andE h
    obtain ⟨h, c5⟩ := andE h
    obtain ⟨h, c4⟩ := andE h
    obtain ⟨h, c3⟩ := andE h
    obtain ⟨c1, c2⟩ := andE h
    have e1 := of_decide_eq_true c1
    have e2 := of_decide_eq_true c2
    have e4 := of_decide_eq_true c4
    have e5 := of_decide_eq_true c5
    have e6 := of_decide_eq_true c6
    have e7 := of_decide_eq_true c7
    have e8 := of_decide_eq_true c8
    have e9 := of_decide_eq_true c9
    have e10 := of_decide_eq_true c10
    have l1 := of_decide_eq_true c12
    have l2 := of_decide_eq_true c13
    subst e1 e2 e4 e5 e6 e7 e8 e9 e10
    refine pss_imp (pss_one (su_ret P hY hz hf xf wh c3 c11 l1 l2)) fun U σ H h => ?_
    obtain ⟨Hs, vw, st, h1, h2, h3, h4⟩ := h
    rw [List.append_nil] at h1 h2 h3
    exact ⟨done, Hs, vw, st, h1, h2, h3 ▸ h4⟩
  · cases h
theorem su_one (P : Plc m sg Y p) {X0 : Cx} {oe : Obj} {A B : Addr} {d : Option Addr} {pn : List (Addr × Obj)} (hY : Y = X0.suite p.1 ((p.1, oe) :: pn)) (hz : Zc (.ref A) d oe) (hf : ∃ vs, oe.data = .fields vs) (exc : ExcC Y.K A) {n C1 : Str} {b : Bool} (hk : PySem.W.kitOne Y.K (.ref A) (.ref B) = some b)
    (hg : glC sg C1 = true) (ho : okNm C1 = true) (hm : Y.mg C1 = some (.ref B)) {k1 k2 : Nat} {ap cp q1 q2 q3 q4 q5 q6 q7 q8 : Pos} (hap : (ap.endLine == cp.line) = true) {goal : Str} {done rest : List (Str × Bool)} {t : TS}
    (ht : ∀ U σ H, SuR p d goal (done ++ [(n, b)]) rest U σ H → t U σ H) :
    PS Y (.Expr (.Call (.Attribute (.Name m.fd q1) "append" ap) [.Tuple [.Constant (.str n) k1 q2, .Call (.Name "isinstance" q3) [.Name m.r q4, .Name C1 q5] [] q6] k2 q7] [] cp) q8) (fun D σ H => SuR p d goal done ((n, b) :: rest) { D with nx := fun _ _ => False } σ H ∧ ∀ σ' H', t D σ' H' → D.nx σ' H') := by
  have gl : Gl Y C1 := by show Y.env.scope.names.lookup C1 = _; rw [P.sc]; exact of_decide_eq_true hg
  have gi : Gl Y "isinstance" := by show Y.env.scope.names.lookup _ = _; rw [P.sc]; exact of_decide_eq_true P.isi.1
  have cls : PE Y (.Name C1 q5) (tC (.ref B)) := pe_glob gl hm rfl (okNm_of ho).1
  have vr : PE Y (.Name m.r q4) (tVar 1) := P.var (i := 1) rfl P.r
  cases hd : d with
  | none =>
    refine ⟨fun pins s σ H U I h => ?_⟩
    obtain ⟨⟨Hs, vw, ⟨F, dd, vs, s1, s2, sl, ed, _⟩, _⟩, _⟩ := h
    cases ed
  | some dd0 =>
    rw [hd] at hz
    have is1 : PE Y (.Call (.Name "isinstance" q3) [.Name m.r q4, .Name C1 q5] [] q6) (tCB (rIsF Y.K A p.1 dd0) (tCons (tVar 1) (tCons (tC (.ref B)) tNil))) := by
      refine pe_callB ?_ gi P.isi.2 PyProof.Rows.boot_isinstance (pa_cons vr (pa_cons cls pa_nil rfl) rfl) (by decide) (by decide) rfl rfl
      subst hY
      exact call_isF exc hz hf
    refine ps_imp (ps_expr (pe_bm PySem.F.plainAttrs_list PySem.F.slot_list_append PySem.F.type_list_append mt_append (P.var (i := 2) rfl P.fd) (pa_cons (pe_tup (pa_cons pe_str (pa_cons is1 pa_nil rfl) rfl)) pa_nil rfl) rfl (few_of rfl) hap rfl rfl) rfl) fun U σ H h => ?_
    obtain ⟨⟨Hs, vw, ⟨F, dd, vs, s1, s2, sl, ed, hx, hF, pr, hsF, kp⟩, z1, z2, z3, fin⟩, nx⟩ := h
    cases ed
    have lv := pr.len
    refine ⟨.ref F, s2, .inl ⟨rfl, vs, .inl (.inl hF)⟩, .ref p.1, s1, .ref B, .ref B, b, _, rfl, fun u r => r, hk, hx, by show 2 ≤ sizeLine; decide, fun T hT => ?_⟩
    have nF : F ≠ T := ne_of_none hF hT
    refine ⟨F, vs, .ref T, rfl, rfl, by rw [upd_ne nF]; exact hF, ?_, ?_⟩
    · have : (1001 : Nat) < sizeLine := by decide
      rw [List.length_append] at z1
      rw [lv]
      omega
    · refine nx _ _ (ht _ _ _ ⟨Hs, vw, ⟨F, dd0, vs ++ [.ref T], s1, s2, sl, hd, ?_, upd_same, ?_, hsF, fun c o hc => ?_⟩, by rw [List.append_assoc]; exact z1, by rw [List.append_assoc]; exact z2, by rw [List.append_assoc]; exact z3, fin⟩)
      · have n1 : dd0 ≠ F := fun z => by rw [z, hF] at hx; cases hx
        rw [upd_ne n1, upd_ne (ne_of_none hx hT)]; exact hx
      · refine .snoc (pr.keep fun T2 xs h2 => ?_) ?_
        · have n2 : T2 ≠ F := fun z => by rw [z, hF] at h2; cases h2
          rw [upd_ne n2, upd_ne (ne_of_none h2 hT)]; exact h2
        · rw [upd_ne (Ne.symm nF), upd_same]
      · have n3 : c ≠ F := fun z => by rw [z, hsF] at hc; cases hc
        rw [upd_ne n3, upd_ne (ne_of_none (kp c o hc) hT)]
        exact kp c o hc
/-- the classes by their names -/
def ErrN (Y : Cx) (ca : Nat → Option Addr) (errs : List Str) : Prop := ∀ c y, errs[c]? = some y → ∃ B, ca c = some B ∧ Y.mg y = some (.ref B)
theorem su_all {errs : List Str} {ca : Nat → Option Addr} {R : Addr} {j : Nat} (P : Plc m sg Y p) {X0 : Cx} {oe : Obj} {A : Addr} {d : Option Addr} {pn : List (Addr × Obj)} (hY : Y = X0.suite p.1 ((p.1, oe) :: pn)) (hz : Zc (.ref A) d oe) (hf : ∃ vs, oe.data = .fields vs) (hn : ErrN Y ca errs) {goal : Str} :
    ∀ (hs : List (Str × Nat)) (su : List Stmt) (done : List (Str × Bool)), ErrK Y.K ca R hs j A → suC m sg errs hs su = true → PSs Y su (SuR p d goal done (hs.map fun h => (h.1, h.2 == j)))
  | [], su, done, ek, h => su_end P hY hz hf ek.xf ek.what h
  | (n, c) :: hs, [], done, ek, h => by cases h
  | (n, c) :: hs, st :: su, done, ek, h => by
    rw [suC] at h
    obtain ⟨h1, h2⟩ := andE h
    have ih := su_all (goal := goal) P hY hz hf hn hs su (done ++ [(n, c == j)]) ⟨ek.exc, ek.xf, ek.what, ek.sup, fun q hq => ek.is_ q (List.mem_cons_of_mem _ hq)⟩ h2
    unfold suOneC at h1
    split at h1
    · obtain ⟨h, c9⟩ := andE h1
      obtain ⟨h, c8⟩ := andE h
      obtain ⟨h, c7⟩ := andE h
      obtain ⟨h, c6⟩ := andE h
      obtain ⟨h, c5⟩ := andE h
      obtain ⟨h, c4⟩ := andE h
      obtain ⟨h, c3⟩ := andE h
      obtain ⟨c1, c2⟩ := andE h
      have e1 := of_decide_eq_true c1
      have e2 := of_decide_eq_true c2
      have e4 := of_decide_eq_true c4
      have e5 := of_decide_eq_true c5
      have e6 := of_decide_eq_true c6
      have e7 := of_decide_eq_true c7
      subst e1 e2 e4 e5 e6
      obtain ⟨B, b1, b2⟩ := hn _ _ e7
      obtain ⟨B', b3, b4⟩ := ek.is_ _ (List.mem_cons_self ..)
      rw [b1] at b3
      cases b3
      exact pss_imp (pss_cons (su_one P hY hz hf ek.exc b4 c8 c9 b2 c3 (t := SuR p d goal (done ++ [(_, c == j)]) (hs.map fun h => (h.1, h.2 == j))) fun U σ H q => q) ih) fun U σ H q => by
        obtain ⟨Hs, vw, x⟩ := q
        exact ⟨⟨Hs, vw, x⟩, fun σ' H' z => z⟩
    · cases h1
/-- what the suite is to make of a caught refusal -/
def tSuite (goal : Str) (d : Option Addr) (a : Addr) : TS := fun D σ H => ∃ (dd : Addr) (vw : V), d = some dd ∧ H dd = some (.xd [(("what" : Str), vw)]) ∧ σ[1]? = some (some (.ref a)) ∧ σ.length = 5 ∧ EndSu H goal vw D.rt
theorem suite_ok {errs : List Str} {ca : Nat → Option Addr} {R : Addr} {j : Nat} (P : Plc m sg Y p) {X0 : Cx} {oe : Obj} {A : Addr} {d : Option Addr} {pn : List (Addr × Obj)} (hY : Y = X0.suite p.1 ((p.1, oe) :: pn)) (hz : Zc (.ref A) d oe) (hf : ∃ vs, oe.data = .fields vs) (hn : ErrN Y ca errs)
    {hs : List (Str × Nat)} {su : List Stmt} (ek : ErrK Y.K ca R hs j A) (h : suC m sg errs hs su = true) (hb : hs.length ≤ 1000) (hsum : (hs.map (·.1.length)).sum ≤ 1000000) (hfn : ∀ y, Y.fn y = true) {q1 q2 q3 : Pos} :
    PSs Y (.Assign [.Name m.fd q1] (.List [] q2) q3 :: su) (tSuite (heardOf hs j) d p.1) := by
  have fdl : Y.env.scope.names.lookup m.fd = some .local := by rw [P.sc]; exact P.fd
  refine pss_imp (pss_cons (ps_set (i := 2) (by rw [P.nm]; exact P.nd) (by rw [P.nm]; rfl) (.inl fdl) (pe_lst pa_nil) rfl (.inr fdl)) (su_all P hY hz hf hn hs su [] ek h (goal := heardOf hs j))) fun U σ H q => ?_
  obtain ⟨dd, vw, ed, hx, s1, sl, fin⟩ := q
  have pk : pick (hs.map fun h => (h.1, h.2 == j)) = (hs.filter fun h => h.2 == j).map (·.1) := by
    unfold pick
    rw [List.filter_map, List.map_map]
    rfl
  refine ⟨Nat.zero_le _, fun F hF => ⟨H, vw, ⟨F, dd, [], ?_, ?_, ?_, ed, ?_, upd_same, .nil, hF, keep_upd hF⟩, ?_, ?_, ?_, fin⟩⟩
  · rw [List.getElem?_set_ne (by decide)]; exact s1
  · rw [List.getElem?_set_self (by rw [sl]; decide)]
  · rw [List.length_set]; exact sl
  · exact keep_upd hF _ _ hx
  · rw [List.nil_append, List.length_map]; exact hb
  · rw [List.nil_append, pk]
    refine Nat.le_trans ?_ hsum
    rw [List.map_map]
    generalize hs = l
    induction l with
    | nil => exact Nat.le_refl _
    | cons x l ih =>
      rw [List.filter_cons]
      split
      · rw [List.map_cons, List.map_cons, List.sum_cons, List.sum_cons]
        exact Nat.add_le_add (Nat.le_refl _) ih
      · rw [List.map_cons, List.sum_cons]
        omega
  · rw [List.nil_append, pk]; rfl
end
end Pv
end
section
set_option linter.all false
set_option maxRecDepth 100000
set_option maxHeartbeats 4000000
namespace Pv
open PySem PySem.Spec PySem.SeqAt PyProof.Rows L2 LamX HotX L2H

/-! Pv27: the def that hears, called with a lambda -/
/-- what the receiver makes of the lambda's reading -/
def TTh (ca : Nat → Option Addr) (hs : List (Str × Nat)) : (XK → Hp → VK → Prop) → Hp → VK → Prop := fun tl H Q => ∃ E : XK, tl E H (fun v H1 => 2 ≤ sizeLine ∧ ∀ q, H1 q = none → Q (.ref q) (upd H1 q (.tup [.str "told", v]))) ∧
  ∀ cls d H', E cls d H' → ∃ (j : Nat) (A dd : Addr) (vw : V), cls = .ref A ∧ ca j = some A ∧ d = some dd ∧ H' dd = some (.xd [(("what" : Str), vw)]) ∧ EndSu H' (heardOf hs j) vw Q
def hearC (m : Nms) (R : Str) (errs : List Str) (hs : List (Str × Nat)) (sg : Scope) (bg : List Stmt) : Bool := match bg with
  | [.Try [.Return (some (.Tuple [.Constant (.str td) _ _, .Call (.Name a1 _) [] [] _] _ _)) _] [.ExceptHandler (some (.Name x _)) (some r1) (.Assign [.Name f1 _] (.List [] _) _ :: su) _] [] [] _] =>
    decide (td = "told") && decide (a1 = m.a) && decide (x = R) && decide (r1 = m.r) && decide (f1 = m.fd) && suC m sg errs hs su
  | _ => false
def plcC (m : Nms) (R : Str) (hs : List (Str × Nat)) (sg : Scope) : Bool := C8.scC m.N [m.a] sg && decide (sg.names.lookup m.r = some .local) && decide (sg.names.lookup m.fd = some .local) && m.N.all okNm && glC sg "isinstance" && glC sg R && okNm R && visC sg m.a && decide (hs.length ≤ 1000) && decide ((hs.map (·.1.length)).sum ≤ 1000000)
def GivesN (X : Cx) (Ng : List Str) (x : Str) (sg : Scope) (g : Addr) (cdg : Value) (bg : List Stmt) (a : Str) (q : Str) (TT : (XK → Hp → VK → Prop) → Hp → VK → Prop) : Prop :=
  ∀ (f c2 : Addr) (s : Shared) (H : Hp) (Q : VK) (tl : XK → Hp → VK → Prop),
    (∀ (W : WX) (pn : List (Addr × Obj)) (xe : Value → Shared → Prop) (E : XK) (p1 p2 : Pos), L2N.Takes ((rcv X Ng x sg g cdg s H).tr pn xe) W → (∀ cls d σ' H', E cls d H' → W cls d σ' H') →
      PE ((rcv X Ng x sg g cdg s H).tr pn xe) (.Call (.Name a p1) [] [] p2) (fun σZ HZ Q => σZ[0]? = some (some (.ref f)) ∧ HZ c2 = some (CodeO c2 q) ∧ tl E HZ Q)) →
    H c2 = some (CodeO c2 q) → TT tl H Q → ∃ t, PSs (rcv X Ng x sg g cdg s H).nox bg t ∧ t { nx := fun _ H' => Q .non H', rt := Q } (L2.start Ng [.ref f]) H
theorem gl_sc {sc : Scope} {n : Str} (h : glC sc n = true) : sc.names.lookup n = some .globalImplicit := of_decide_eq_true h
theorem hear_gives {X : Cx} {m : Nms} {R x q : Str} {errs : List Str} {hs : List (Str × Nat)} {sg : Scope} {g RA : Addr} {cdg : Value} {ca : Nat → Option Addr} {bg : List Stmt} (hc : hearC m R errs hs sg bg = true) (hp : plcC m R hs sg = true) (hR : X.mg R = some (.ref RA)) (hi : X.mg "isinstance" = none)
    (hn : ErrN X ca errs) (ek : ∀ j A, ca j = some A → ErrK X.K ca RA hs j A) : GivesN X m.N x sg g cdg bg m.a q (TTh ca hs) := by
  intro f c2 s H Q tl act hco hT
  unfold hearC at hc
  split at hc
  · obtain ⟨hc, k6⟩ := andE hc
    obtain ⟨hc, k5⟩ := andE hc
    obtain ⟨hc, k4⟩ := andE hc
    obtain ⟨hc, k3⟩ := andE hc
    obtain ⟨k1, k2⟩ := andE hc
    have e1 := of_decide_eq_true k1
    have e2 := of_decide_eq_true k2
    have e3 := of_decide_eq_true k3
    have e4 := of_decide_eq_true k4
    have e5 := of_decide_eq_true k5
    subst e1 e2 e3 e4 e5
    obtain ⟨hp, p10⟩ := andE hp
    obtain ⟨hp, p9⟩ := andE hp
    obtain ⟨hp, p8⟩ := andE hp
    obtain ⟨hp, p7⟩ := andE hp
    obtain ⟨hp, p6⟩ := andE hp
    obtain ⟨hp, p5⟩ := andE hp
    obtain ⟨hp, p4⟩ := andE hp
    obtain ⟨hp, p3⟩ := andE hp
    obtain ⟨p1, p2⟩ := andE hp
    have S := C8.fnScope_by p1
    have rl := of_decide_eq_true p2
    have fl := of_decide_eq_true p3
    have dbg : ∀ y ∈ m.N, okNm y = true := fun y hy => List.all_eq_true.mp p4 y hy
    obtain ⟨E, tE, hE⟩ := hT
    refine ⟨_, pss_one (L2N.ps_try_as (X := (rcv X m.N x sg g cdg s H).nox) (i := 1) (c := .ref RA) (Wout := fun _ _ _ _ => False)
      (tb := fun W D σ H => ∃ E : XK, (∀ cls d σ' H', E cls d H' → W cls d σ' H') ∧ σ[0]? = some (some (.ref f)) ∧ H c2 = some (CodeO c2 q) ∧ tl E H fun v H1 => 2 ≤ sizeLine ∧ ∀ q, H1 q = none → D.rt (.ref q) (upd H1 q (.tup [.str "told", v])))
      (ts := fun a cls d D σ H => ∃ (j : Nat) (A : Addr) (σ0 : L2.St), cls = .ref A ∧ ca j = some A ∧ σ = σ0.set 1 (some (.ref a)) ∧ ∃ (dd : Addr) (vw : V), d = some dd ∧ H dd = some (.xd [(("what" : Str), vw)]) ∧ EndSu H (heardOf hs j) vw D.rt)
      rfl rfl S.nd rfl rl ⟨gl_sc p6, (okNm_of p7).1, .inl hR⟩ (fun u s' ⟨_, _, _, _, _, _, _, _, _, _, _, _, _, _, _, _, w⟩ => w.elim) (fun W pn xe tk _ => ?_) (fun a oe cls d pn hz hf => ?_)), ?_⟩
    · refine ⟨fun pins s' σ H' D I h' => ?_⟩
      obtain ⟨E', hW, h1, h2, h3⟩ := h'
      exact (pss_one (ps_ret (pe_tup (pa_cons pe_str (pa_cons (act W pn xe E' _ _ tk hW) pa_nil rfl) rfl)))).run pins s' σ H' D I ⟨h1, h2, h3⟩
    · refine ⟨fun pins s' σ H' D I h' => ?_⟩
      obtain ⟨j, A, σ0, ec, hA, es, dd, vw, ed, hx, fin⟩ := h'
      subst ec
      have hl : σ.length = 5 := I.len
      obtain ⟨vs, hv⟩ := hf
      have P : Plc m sg ((rcv X m.N x sg g cdg s H).nox.suite a ((a, oe) :: pn)) (a, oe) := ⟨rfl, S.nd, rfl, ⟨rfl, vs, hv, hz.2.2 vs hv⟩, List.mem_cons_self, rl, fl, dbg, p5, hi⟩
      refine (suite_ok (R := RA) P rfl hz.zc ⟨vs, hv⟩ hn (ek j A hA) k6 (of_decide_eq_true p9) (of_decide_eq_true p10) (fun _ => rfl)).run pins s' σ H' D I ⟨dd, vw, ed, hx, ?_, hl, fin⟩
      rw [es, List.length_set] at hl
      rw [es, List.getElem?_set_self (by rw [hl]; decide)]
    · refine ⟨E, fun cls d σ' H' he => ?_, rfl, hco, ?_⟩
      · obtain ⟨j, A, dd, vw, ec, hA, ed, hx, fin⟩ := hE cls d H' he
        subst ec
        exact ⟨true, (ek j A hA).sup, fun _ a _ => ⟨j, A, σ', rfl, hA, rfl, dd, vw, ed, hx, fin⟩, fun z => nomatch z⟩
      · exact tE
  · cases hc
def tLamN (T : List (Addr × Str)) (TT : (XK → Hp → VK → Prop) → Hp → VK → Prop) (t : XK → TE) : TE := fun σ H Q => Tabs T H ∧ ∀ H1, LamH T H H1 → TT (fun E H' Q' => t E σ H' Q') H1 Q
def noArgs : Arguments → Bool
  | ⟨[], [], none, [], [], none, []⟩ => true
  | _ => false
theorem noArgs_of {a : Arguments} (h : noArgs a = true) : a = ⟨[], [], none, [], [], none, []⟩ := by
  unfold noArgs at h
  split at h
  · rfl
  · cases h
/-- the def that hears, as the written part has it -/
structure RcvK (X : Cx) (x a : Str) (Ng : List Str) (sg : Scope) (bg : List Stmt) (g : Addr) (cdv : Value) : Prop where
  mg : X.mg x = some (.ref g)
  kp : PySem.W.keepIn X.K (.ref g) = true
  ex : ∃ (pg : Arguments) (dV kV doc pm ct oc : Value) (an od : Option Addr) (osl : Array (Option Value)), X.K.lookup g = some ⟨oc, od, .func (PySem.W.fnOf x x pg bg sg dV kV doc pm an cdv ct), osl⟩ ∧ PySem.W.codeIn X.K cdv x = true ∧ Binds X.K (PySem.W.fnOf x x pg bg sg dV kV doc pm an cdv ct) [a] []
theorem lamCall {X : Cx} {T : List (Addr × Str)} {TT : (XK → Hp → VK → Prop) → Hp → VK → Prop} {x a : Str} {g c P : Addr} {k : Nat} {bg : List Stmt} {sg : Scope} {cdv : Value} {Ng : List Str} {ps0 : Arguments} {body : Expr} {scope : Scope} {t : XK → TE} {p lpos pos : Pos}
    (rk : RcvK X x a Ng sg bg g cdv) (hg : Gl X x) (Sg : FnScope Ng [a] sg) (hNg : Ng[0]? = some a) (hva : Vis sg a) (hG : GivesN X Ng x sg g cdv bg a (X.env.qual ++ "<lambda>") TT) (TB : TabB X.base X.mg c P) (hcode : X.env.code = .ref c) (hmT : (P, X.env.qual ++ "<lambda>") ∈ T)
    (hu : ∀ p ∈ T, p.1 = P → p.2 = X.env.qual ++ "<lambda>") (hr : Room (k + 2) X.A) (L : LamS X.env.scope scope) (hdef : noArgs ps0 = true)
    (hbody : ∀ (A : Around) (outer : List Env) (s : Shared) (H : Hp) (E : XK) (f c' : Addr), Room k (A.deeper (lamEnv X scope s.heap.objs.size f c')) → PE (lamN X A outer s H E scope f c') body (t E)) (hdb : okNm x = true) (hd : okNm a = true) :
    PE X (.Call (.Name x p) [.Lambda ps0 body scope lpos] [] pos) (tLamN T TT t) := by
  obtain ⟨pg, dV, kV, doc, pm, ct, oc, an, od, osl, lk, hcg, hb⟩ := rk.ex
  rw [noArgs_of hdef]
  refine ⟨fun pins s σ H Q I ⟨hT, h⟩ => ?_⟩
  refine wpAny_Call_Name_kw (ld_glob I hg rk.mg ?_ (okNm_of hdb).1)
  refine PySem.W.callWith_K (h₀ := X.base) I.ok.mod.kin rk.kp ?_ rfl rfl
  show wpAny _ _ (spliced ((false, eval (.Lambda ⟨[], [], none, [], [], none, []⟩ body scope lpos) X.env) :: backTo pos (starEach [] X.env))) _ _ s
  refine Calls.spliced_cons (lamMake I TB hcode hmT hu hT rfl (L.has I.ok) fun f c2 pm2 ct2 H1 s2 I1 lh hf hfn hfr hco => ?_)
  refine Calls.spliced_nil ⟨I1.kIn, ?_⟩
  have rc : codeAny (model X.prog X.w) X.A (.call (.ref g) ⟨[.ref f], []⟩) (CR C8.CX0 X.stack X.prog X.w H1 s2 Q C8.E0) s2 := by
    refine run_ofS (N := Ng) (ps := [a]) (us := [.ref f]) (vs := [.ref f]) lk hcg Sg hr I1.env0 (hb s2 [.ref f] I1.kIn rfl) (.cons rfl .nil) rfl fun hr2 => ?_
    obtain ⟨t2, ht2, hq2⟩ := hG f c2 s2 H1 Q (fun E H' Q' => t E σ H' Q') (fun W pn xe E p1 p2 tk hW => lamAct (i := 0) I1 L hf hfn hfr rfl tk hW hr2 (fun A outer s H hr3 => hbody A outer s H E f c2 hr3) hNg hva (okNm_of hd).1 (okNm_of hd).2) hco (h H1 lh)
    exact ⟨t2, ht2.nox, hq2⟩
  refine wpAny_call (codeAny_mono rc fun r s3 hq => ?_)
  match r, hq with
  | .ok (.ret u), hq => exact I1.after hq
end Pv
end
section
set_option linter.all false
set_option maxRecDepth 100000
set_option maxHeartbeats 4000000
namespace Pv
open PySem PySem.Spec PySem.SeqAt PyProof.Rows L2 LamX

/-! Pv28: heard(lambda: ..) as an expression -/
theorem LamH.mv {T : List (Addr × Str)} {H H1 : Hp} (h : LamH T H H1) (β : List Addr) : Mv β H β H1 := ⟨⟨[], by simp, by simp⟩, fun b o _ e n => h.ext b o e n, h.live⟩
theorem LamH.bxs {K : PySem.W.Frag} {T : List (Addr × Str)} {L : Addr → Prop} {β : List Addr} {B : Bx} {H H1 : Hp} (h : LamH T H H1) (b : Bxs K T L β B H) : Bxs K T L β B H1 :=
  ⟨b.len, b.nd, fun a z => by
    obtain ⟨⟨vs, e⟩, n⟩ := b.lk a z
    exact ⟨⟨vs, h.ext a _ e lst_tbl⟩, n⟩, fun l xs e => by
    obtain ⟨a, vs, h1, h2, h3, h4⟩ := b.at_ l xs e
    exact ⟨a, vs, h1, h.ext a _ h2 lst_tbl, h3, h4.mv (h.mv β)⟩, h.tabs⟩
/-- a receiver of the text -/
structure Hear where
  x : Str
  m : Nms
  R : Str
  hs : List (Str × Nat)
  sg : Scope
  bg : List Stmt
  pg : Arguments
/-- what is known where a lambda may be made -/
structure HearX (T : List (Addr × Str)) (ca : Nat → Option Addr) (errs : List Str) (rs : List Hear) (X : Cx) : Prop where
  code : ∃ c P, X.env.code = .ref c ∧ TabB X.base X.mg c P ∧ (P, X.env.qual ++ "<lambda>") ∈ T ∧ ∀ p ∈ T, p.1 = P → p.2 = X.env.qual ++ "<lambda>"
  isi : X.mg "isinstance" = none
  errn : ErrN X ca errs
  rcv : ∀ (f : Nat) (hr : Hear), rs[f]? = some hr → (∃ g cdv, RcvK X hr.x hr.m.a hr.m.N hr.sg hr.bg g cdv) ∧ hearC hr.m hr.R errs hr.hs hr.sg hr.bg = true ∧ plcC hr.m hr.R hr.hs hr.sg = true ∧ ∃ RA, X.mg hr.R = some (.ref RA) ∧ ∀ j A, ca j = some A → ErrK X.K ca RA hr.hs j A
def hdV (rs : List Hear) (r : Rc) (sc : Sco) (e : E) (x : Expr) : Bool := match e, x with
  | .heard f hs e, .Call (.Name y _) [.Lambda ps0 body scope _] [] _ => sc.top && (match rs[f]? with
    | some hr => decide (y = hr.x) && decide (hs = hr.hs) && glC sc.s y && okNm y && okNm hr.m.a && lamSB sc.s scope && noArgs ps0 && r ⟨scope, false⟩ .v e (.e body)
    | none => false)
  | _, _ => false
def hdH (rs : List Hear) : Rc → Rc := fun r sc k e x => match k, x with
  | .v, .e x => hdV rs r sc e x
  | _, _ => false
section
variable {X : Cx} {T : List (Addr × Str)} {ca : Nat → Option Addr} {W : WX} {C : Cl} {tb : Tab} {N : List Str} {k : Nat} {errs : List Str} {rs : List Hear}
theorem heard_read {f : Nat} {hs : List (Str × Nat)} {e : E} {m : Bool} {σ : L2.St} {H : Hp} {Q : VK} (h : tEv X.K T ca W C (.heard f hs e) m σ H Q) : tLamN T (TTh ca hs) (fun E => tEv X.K T ca (fun cls d _ H => E cls d H) C e true) σ H Q := by
  obtain ⟨L, β, ρ, B, S, h⟩ := h
  refine ⟨S.bx.tabs, fun H1 lh => ?_⟩
  have m1 := lh.mv β
  have b1 := lh.bxs S.bx
  have S1 := S.mv m1 b1
  have h : Ok X.K T ca W L β H σ (match ev C e true ρ B with
    | .ok r B => .ok (.tuple [.str "told", r.1], false) B
    | .ex c w B => .ok (.tuple [.str (heardOf hs c), w], false) B
    | .bad => .bad) (Va X.K T L β H m Q) := h
  refine ⟨fun cls d H' => ∃ (c : Nat) (A dd : Addr) (vw : V) (w : D) (B' : Bx) (β' : List Addr), ev C e true ρ B = .ex c w B' ∧ cls = .ref A ∧ ca c = some A ∧ d = some dd ∧ H' dd = some (.xd [(("what" : Str), vw)]) ∧ Mv β H1 β' H' ∧ Bxs X.K T L β' B' H' ∧ Rp X.K L β' H' w vw,
    ⟨L, β, ρ, B, S1, ?_⟩, ?_⟩
  · cases he : ev C e true ρ B with
    | ok r B1 =>
      rw [he] at h
      have h : Va X.K T L β H m Q (.tuple [.str "told", r.1], false) B1 := h
      intro v β2 H2 m2 b2 rb rp fr
      refine ⟨by decide, fun q hq => ?_⟩
      refine put_tup (ds := [.str "told", r.1]) b2.live (Va.put b2 (h.mv (m1.trans m2))) (Rps.cons (by rw [Rp]) (Rps.cons (rp rfl) Rps.nil)) (by show 2 ≤ sizeLine; decide) hq
    | ex c w B' => exact fun a d vw β' H' hA mv bx hx rw' => ⟨c, a, d, vw, w, B', β', rfl, rfl, hA, rfl, hx, mv, bx, rw'⟩
    | bad => rw [he] at h; exact h.elim
  · rintro cls d H' ⟨c, A, dd, vw, w, B', β', he, ec, hA, ed, hx, mv, bx, rw'⟩
    rw [he] at h
    have h : Va X.K T L β H m Q (.tuple [.str (heardOf hs c), w], false) B' := h
    refine ⟨c, A, dd, vw, ec, hA, ed, hx, fun v H2 same ⟨q, ev', hq, hT⟩ => ?_⟩
    subst ev'
    have m2 : Mv β' H' β' H2 := Mv.of same
    have rp : Rp X.K L β' H2 (.tuple [.str (heardOf hs c), w]) (.ref q) := by
      rw [Rp]
      refine ⟨q, _, rfl, .inl ⟨fun z => ?_, .inl hT⟩, by show 2 ≤ sizeLine; decide, Rps.cons (by rw [Rp]) (Rps.cons (rw'.mv m2) Rps.nil)⟩
      obtain ⟨o, eo⟩ := bx.live q z
      rw [hq] at eo; cases eo
    exact h _ β' H2 ((m1.trans mv).trans m2) (same_bxs same bx) (.inl rp) (fun _ => rp) fun z => nomatch z
theorem takes_lamN {A : Around} {outer : List Env} {s : Shared} {H : Hp} {E : XK} {scope : Scope} {f c' : Addr} : L2N.Takes (lamN X A outer s H E scope f c') (fun cls d _ H => E cls d H) := L2N.takes_of rfl rfl rfl rfl
theorem hdH_ok : HdOk tb N (HearX T ca errs rs) T ca C k (hdH rs) := by
  intro r X W sc e x hr o h m
  have h : hdV rs r sc e x = true := h
  unfold hdV at h
  split at h
  · obtain ⟨h1, h2⟩ := andE h
    obtain ⟨hx, rm⟩ := o.hx h1
    split at h2
    · rename_i hr' hf
      obtain ⟨h2, k8⟩ := andE h2
      obtain ⟨h2, k7⟩ := andE h2
      obtain ⟨h2, k6⟩ := andE h2
      obtain ⟨h2, k5⟩ := andE h2
      obtain ⟨h2, k4⟩ := andE h2
      obtain ⟨h2, k3⟩ := andE h2
      obtain ⟨k1, k2⟩ := andE h2
      have e1 := of_decide_eq_true k1
      have e2 := of_decide_eq_true k2
      subst e1 e2
      obtain ⟨⟨g, cdv, rk⟩, hc, hp, RA, hR, ek⟩ := hx.rcv _ _ hf
      obtain ⟨c, P, q1, q2, q3, q4⟩ := hx.code
      have hp' := hp
      obtain ⟨hp', p10⟩ := andE hp'
      obtain ⟨hp', p9⟩ := andE hp'
      obtain ⟨hp', p8⟩ := andE hp'
      obtain ⟨hp', p7⟩ := andE hp'
      obtain ⟨hp', p6⟩ := andE hp'
      obtain ⟨hp', p5⟩ := andE hp'
      obtain ⟨hp', p4⟩ := andE hp'
      obtain ⟨hp', p3⟩ := andE hp'
      obtain ⟨p1, p2⟩ := andE hp'
      have S := C8.fnScope_by p1
      refine pe_imp (lamCall (T := T) (k := k + 1) rk (o.gl k3) S rfl (vis_of p8) (hear_gives hc hp hR hx.isi hx.errn ek) q2 q1 q3 q4 (rm.mono (by omega)) (lamS_by (by rw [o.scp]; exact k6)) k7 (fun A outer s H E f c' hr3 => ?_) k4 k5) fun σ H Q q => heard_read q
      exact hr (lamN X A outer s H E _ f c') (fun cls d _ H => E cls d H) ⟨_, false⟩ .v _ (.e _) ⟨⟨o.tab.consts, o.tab.bis, fun f n h => ⟨(o.tab.fns f n h).ex⟩⟩, o.nm, rfl, o.nd, rfl, hr3.mono (by omega), (fun z => nomatch z), takes_lamN⟩ k8 true
    · cases h2
  · cases h
end
end Pv
end
section
set_option linter.all false
set_option maxRecDepth 100000
set_option maxHeartbeats 4000000
namespace Pv
open PySem PySem.Spec PySem.SeqAt PyProof.Rows L2 LamX

/-! Pv29: the refusals' own __init__; all defs of a table -/
def initC (a b : Str) (body : List Stmt) : Bool := match body with
  | [.Expr (.Call (.Attribute (.Name v _) i p2) [.Name a1 _, .Name b1 _] [] pos) _, .Assign [.Attribute (.Name a2 _) w _] (.Name b2 _) _] =>
    decide (v = "ValueError") && decide (i = "__init__") && (p2.endLine == pos.line) && decide (a1 = a) && decide (b1 = b) && decide (a2 = a) && decide (b2 = b) && decide (w = "what")
  | _ => false
theorem init_eval {X : Cx} {p1 p2 pos q1 q2 : Pos} {x y : Str} (h : (p2.endLine == pos.line) = true) : eval (.Call (.Attribute (.Name "ValueError" p1) "__init__" p2) [.Name x q1, .Name y q2] [] pos) X.env = (do
      let o ← eval (.Name "ValueError" p1) X.env
      standAt p2.atName
      let (f, fst) ← holding [o] (getMethod o "__init__" (plainOf (.Name "ValueError" p1) X.env))
      callWith pos f fst (backTo pos (starEach [.Name x q1, .Name y q2] X.env)) (backToKw pos (keywordEach [] X.env))) := by
  show (do
      let o ← eval (.Name "ValueError" p1) X.env
      standAt p2.atName
      methodCall (.Name "ValueError" p1) "__init__" p2 pos X.env o 2 (backTo pos (starEach [.Name x q1, .Name y q2] X.env)) (backToKw pos (keywordEach [] X.env))) = _
  simp only [mcall_line (show methodCallForm 2 (backTo pos (starEach [.Name x q1, .Name y q2] X.env)) (backToKw pos (keywordEach [] X.env)) = true from rfl) h]
section
variable {P : Program} {w : World} {K : PySem.W.Frag} {mg : Str → Option Value} {base : Heap} {CX : CXT}
theorem init_ok {qual a b : Str} {params : Arguments} {body : List Stmt} {scope : Scope} {f : Addr} {fd : FuncData} (F : FunD K "__init__" qual params body scope [] [] f fd) (hs : C8.scC [a, b] [a, b] scope = true) (hb : initC a b body = true) (ok : (okNm a && okNm b) = true) (hg : glC scope "ValueError" = true)
    (hm : mg "ValueError" = none) (vV : PySem.W.findCls K (.type "ValueError") (.type "type") "__init__" = some (.val (.builtin "ValueError.__init__"))) : FnOk P w K mg base CX 1 f fd [a, b] (spInit K) := by
  have S := C8.fnScope_by hs
  obtain ⟨oa, ob⟩ := andE ok
  refine F.ok (k := 0) S (fun vs H Q E h => ?_) (fun cdv A outer s H vs Q E hr h => ?_)
  · obtain ⟨_, _, _, e, _⟩ := h
    rw [e]; rfl
  · have va : ∀ (q : Pos), PE (cxOf CX P w K mg base [a, b] qual scope f cdv A outer s H E) (.Name a q) (tVar 0) := fun q => pe_var rfl ((S.par _ (List.mem_cons_self ..)).elim .inl fun z => .inr (.inl z)) (okNm_of oa).1 (okNm_of oa).2
    have vb : ∀ (q : Pos), PE (cxOf CX P w K mg base [a, b] qual scope f cdv A outer s H E) (.Name b q) (tVar 1) := fun q => pe_var rfl ((S.par _ (List.mem_cons_of_mem _ (List.mem_cons_self ..))).elim .inl fun z => .inr (.inl z)) (okNm_of ob).1 (okNm_of ob).2
    unfold initC at hb
    split at hb
    · obtain ⟨hb, k8⟩ := andE hb
      obtain ⟨hb, k7⟩ := andE hb
      obtain ⟨hb, k6⟩ := andE hb
      obtain ⟨hb, k5⟩ := andE hb
      obtain ⟨hb, k4⟩ := andE hb
      obtain ⟨hb, k3⟩ := andE hb
      obtain ⟨k1, k2⟩ := andE hb
      have e1 := of_decide_eq_true k1
      have e2 := of_decide_eq_true k2
      have e4 := of_decide_eq_true k4
      have e5 := of_decide_eq_true k5
      have e6 := of_decide_eq_true k6
      have e7 := of_decide_eq_true k7
      have e8 := of_decide_eq_true k8
      subst e1 e2 e4 e5 e6 e7 e8
      refine ⟨_, pss_cons (ps_expr (pe_veinit (gl_sc hg) hm vV (pa_cons (va _) (pa_cons (vb _) pa_nil rfl) rfl) (init_eval k3) rfl rfl) rfl) (pss_one (ps_ost (va _) (vb _) rfl)), ?_⟩
      obtain ⟨x, A', wv, ev, oc, fw, hx, fin⟩ := h
      subst ev
      exact ⟨.ref x, rfl, wv, rfl, x, A', [wv], rfl, by show 1 ≤ 1000; decide, oc, hx, wv, rfl, .ref x, rfl, x, A', rfl, oc, fw, .inl ⟨hx, fin⟩⟩
    · cases hb
end
/-- the text of a law, its table -/
structure Txt0 where
  rows : List Row
  tb : Tab
  errs : List Str
  rs : List Hear
  fuel : Nat
def Txt0.G (t : Txt0) : List FnD := t.rows.map (·.fd)
def Txt0.chk (t : Txt0) : Bool := t.rows.all (rowC t.tb t.errs (hdH t.rs) t.fuel) && decide (t.tb.fns = t.rows.map (·.name))
section
variable {P : Program} {w : World} {K : PySem.W.Frag} {mg : Str → Option Value} {base : Heap} {T : List (Addr × Str)} {ca : Nat → Option Addr}
/-- what the head tells -/
structure HeadF (P : Program) (w : World) (K : PySem.W.Frag) (mg : Str → Option Value) (base : Heap) (T : List (Addr × Str)) (ca : Nat → Option Addr) (t : Txt0) : Prop where
  consts : ∀ (n : Str) (d : D), t.tb.consts.lookup n = some d → ∃ v u, mg n = some u ∧ RelV v u ∧ ∀ L β H, Rp K L β H d v
  bis : ∀ n : Str, t.tb.bis.contains n = true → mg n = none
  fns : ∀ r : Row, r ∈ t.rows → ∃ a fdv, mg r.name = some (.ref a) ∧ FunD K r.name r.name r.params r.body r.scope [] [] a fdv ∧ Binds K fdv r.ps [] ∧ HxOk P w K mg base (HearX T ca t.errs t.rs) r a
  errs : ∀ (c : Nat) (y : Str), t.errs[c]? = some y → ∃ (A fI : Addr) (fd : FuncData) (ps : List Str) (j : Nat), ca c = some A ∧ mg y = some (.ref A) ∧ OexC K A ∧ PySem.W.findIn K (.ref A) "__init__" = some (some (.ref fI)) ∧ PySem.W.typeIn K (.ref fI) = some (.type "function") ∧
    Binds K fd ps [] ∧ j + 1 ≤ 4 ∧ FnOk P w K mg base (L2N.CX P w) j fI fd ps (spInit K) ∧ PySem.W.findIn K (.ref A) ("what" : Str) = some none
theorem all_env {t : Txt0} (h : HeadF P w K mg base T ca t) (hc : t.chk = true) : ∀ n, Env1 P w K mg base T ca (callF t.G n) t.tb t.errs (4 * n + 4) := by
  obtain ⟨c1, c2⟩ := andE hc
  have c2 := of_decide_eq_true c2
  have find : ∀ (f : Nat) (n : Str), t.tb.fns[f]? = some n → ∃ r : Row, t.rows[f]? = some r ∧ r.name = n := fun f n e => by
    rw [c2, List.getElem?_map] at e
    cases q : t.rows[f]? with
    | none => rw [q] at e; cases e
    | some r => rw [q] at e; cases e; exact ⟨r, rfl, rfl⟩
  have more : ∀ n : Nat, (∀ (f : Nat) (nm : Str), t.tb.fns[f]? = some nm → ∃ a fd ps, mg nm = some (.ref a) ∧ PySem.W.keepIn K (.ref a) = true ∧ Binds K fd ps [] ∧ FnOk P w K mg base (L2N.CX P w) (4 * n + 4) a fd ps (spF K T ca (callF t.G n) f)) → Env1 P w K mg base T ca (callF t.G n) t.tb t.errs (4 * n + 4) := fun n hf =>
    ⟨h.consts, h.bis, hf, fun c y e => by
      obtain ⟨A, fI, fd, ps, j, q1, q2, q3, q4, q5, q6, q7, q8⟩ := h.errs c y e
      exact ⟨A, fI, fd, ps, j, q1, q2, q3, q4, q5, q6, by omega, q8⟩⟩
  intro n
  induction n with
  | zero =>
    refine more 0 fun f nm e => ?_
    obtain ⟨r, hr, en⟩ := find f nm e
    obtain ⟨a, fdv, q1, q2, q3, q4⟩ := h.fns r (List.mem_of_getElem? hr)
    have no : ∀ vs H Q E, ¬ spF K T ca (callF t.G 0) f vs H Q E := fun vs H Q E z => by
      obtain ⟨_, _, _, _, _, _, z⟩ := z
      exact z
    exact ⟨a, fdv, r.ps, en ▸ q1, q2.kp, q3, fun vs H Q E z => (no vs H Q E z).elim, fun A outer s H args us vs Q E _ _ _ _ z => (no vs H Q E z).elim⟩
  | succ n ih =>
    refine more (n + 1) fun f nm e => ?_
    obtain ⟨r, hr, en⟩ := find f nm e
    have mem := List.mem_of_getElem? hr
    obtain ⟨a, fdv, q1, q2, q3, q4⟩ := h.fns r mem
    have hG : t.G[f]? = some r.fd := by
      unfold Txt0.G
      rw [List.getElem?_map, hr]; rfl
    exact ⟨a, fdv, r.ps, en ▸ q1, q2.kp, q3, fn_ok ih q2 hG hdH_ok q4 (List.all_eq_true.mp c1 r mem)⟩
end
end Pv
end
section
set_option linter.all false
set_option maxRecDepth 100000
set_option maxHeartbeats 4000000
namespace Pv
open PySem PySem.Spec PySem.SeqAt PyProof.Rows L2 LamX

/-! Pv30: what the head tells of the refusals, by one look at the written part -/
def oexB (K : PySem.W.Frag) (A : Addr) : Bool := (match K.lookup A with
  | some ⟨.type t, _, .cls cd, sl⟩ => decide (t = "type") && (match cd.mro, sl.toList with
    | .ref A' :: bm, [_, _, _, _, some (.builtin n), _] => decide (A' = A) && decide (n = "ValueError.__new__") && !cd.hasDel && cd.hasDict && PySem.HandSPX.refsVE bm
    | _, _ => false)
  | _ => false) && decide (PySem.W.findIn K (.ref A) "__setattr__" = some (some (.builtin "object.__setattr__"))) && decide (PySem.W.subIn K (.ref A) (.type "BaseException") = some true) && decide (PySem.W.typeIn K (.ref A) = some (.type "type")) && PySem.W.keepIn K (.ref A)
theorem oexB_ok {K : PySem.W.Frag} {A : Addr} (h : oexB K A = true) : OexC K A := by
  obtain ⟨h, h5⟩ := andE h
  obtain ⟨h, h4⟩ := andE h
  obtain ⟨h, h3⟩ := andE h
  obtain ⟨h, h2⟩ := andE h
  refine ⟨?_, of_decide_eq_true h2, of_decide_eq_true h3, of_decide_eq_true h4, h5⟩
  split at h
  · rename_i t dd cd sl ho
    obtain ⟨ht, hh⟩ := andE h
    have et := of_decide_eq_true ht
    subst et
    split at hh
    · rename_i A' bm k0 k1 k2 k3 n k5 hm hs
      obtain ⟨hh, q5⟩ := andE hh
      obtain ⟨hh, q4⟩ := andE hh
      obtain ⟨hh, q3⟩ := andE hh
      obtain ⟨q1, q2⟩ := andE hh
      have e1 := of_decide_eq_true q1
      have e2 := of_decide_eq_true q2
      subst e1 e2
      obtain ⟨nm, bs, mro, ns, qn, hd, sn, sb, ab, col, del⟩ := cd
      dsimp only at hm q3 q4
      subst hm q4
      have e3 : del = false := notE q3
      subst e3
      have es : sl = #[k0, k1, k2, k3, some (.builtin "ValueError.__new__"), k5] := by
        rw [← Array.toArray_toList (xs := sl), hs]
      subst es
      exact ⟨nm, qn, ns, bs, bm, sn, sb, ab, col, dd, k0, k1, k2, k3, k5, ho, q5⟩
    · cases hh
  · cases h
def excB (K : PySem.W.Frag) (A : Addr) : Bool := decide (PySem.W.findIn K (.ref A) "__getattribute__" = some (some (.builtin "BaseException.__getattribute__"))) && decide (PySem.W.findIn K (.ref A) "__getattr__" = some none) && decide (PySem.W.subIn K (.ref A) (.type "BaseException") = some true) &&
  PySem.W.hasDictIn K A && decide (PySem.W.findIn K (.ref A) "__class__" = some (some (.builtin "object.__class__"))) && decide (PySem.W.specialIn K (.builtin "object.__class__") "__get__" = some (some (.builtin "getset_descriptor.__get__"))) && decide (PySem.W.takesIn K (.builtin "object.__class__") = some true) &&
  decide (PySem.W.mroIn K A (.type "object") = some true)
theorem excB_ok {K : PySem.W.Frag} {A : Addr} (h : excB K A = true) : ExcC K A := by
  obtain ⟨h, h8⟩ := andE h
  obtain ⟨h, h7⟩ := andE h
  obtain ⟨h, h6⟩ := andE h
  obtain ⟨h, h5⟩ := andE h
  obtain ⟨h, h4⟩ := andE h
  obtain ⟨h, h3⟩ := andE h
  obtain ⟨h1, h2⟩ := andE h
  exact ⟨of_decide_eq_true h1, of_decide_eq_true h2, of_decide_eq_true h3, h4, of_decide_eq_true h5, of_decide_eq_true h6, of_decide_eq_true h7, of_decide_eq_true h8⟩
/-- one class -/
def errB (K : PySem.W.Frag) (R : Str) (errs : List Str) (j : Nat) (y : Str) : Bool := oexB K (He.ga K y) && excB K (He.ga K y) && xfB K (He.ga K y) && decide (PySem.W.findIn K (.ref (He.ga K y)) "what" = some none) &&
  decide (PySem.W.findIn K (.ref (He.ga K y)) "__init__" = some (some (.ref (He.fAd K (R, some "__init__"))))) && decide (PySem.W.exmOne K (.ref (He.ga K y)) (.ref (He.ga K R)) = some true) &&
  (List.range errs.length).all fun i => decide (PySem.W.kitOne K (.ref (He.ga K y)) (.ref (He.ga K (errs.getD i ""))) = some (i == j))
/-- no list stands in the written part -/
def noLst (K : PySem.W.Frag) : Bool := K.all fun q => match q.2.cls with
  | .type n => !decide (n = "list")
  | _ => true
theorem noLst_of {K : PySem.W.Frag} (h : noLst K = true) {H : Hp} {a : Addr} {xs : List V} (q : SqL K H a xs) : Rd H a (.lst xs) := by
  rcases q with q | ⟨o, _, _, hk, hc, _⟩
  · exact q
  · have := List.all_eq_true.mp h (a, o) (He.lookup_mem hk)
    dsimp only at this
    rw [hc] at this
    simp at this
/-- strictly rising -/
def incA : List Addr → Bool
  | [] => true
  | [_] => true
  | a :: b :: r => decide (a < b) && incA (b :: r)
theorem incA_pw : ∀ {l : List Addr}, incA l = true → l.Pairwise (· < ·)
  | [], _ => .nil
  | [a], _ => List.pairwise_singleton _ _
  | a :: b :: r, h => by
    have h' : (decide (a < b) && incA (b :: r)) = true := h
    rw [Bool.and_eq_true, decide_eq_true_eq] at h'
    have ih := incA_pw h'.2
    refine List.pairwise_cons.mpr ⟨fun c hc => ?_, ih⟩
    rcases List.mem_cons.mp hc with rfl | hc
    · exact h'.1
    · exact Nat.lt_trans h'.1 ((List.pairwise_cons.mp ih).1 c hc)
theorem incA_eq {α : Type} {f : α → Addr} : ∀ {l : List α}, (l.map f).Pairwise (· < ·) → ∀ {p q : α}, p ∈ l → q ∈ l → f p = f q → p = q
  | [], _, _, _, h, _, _ => nomatch h
  | x :: l, hp, p, q, h1, h2, e => by
    rw [List.map_cons, List.pairwise_cons] at hp
    rcases List.mem_cons.mp h1 with e1 | k1
    · rcases List.mem_cons.mp h2 with e2 | k2
      · rw [e1, e2]
      · have := hp.1 (f q) (List.mem_map.mpr ⟨q, k2, rfl⟩)
        rw [← e, e1] at this
        exact absurd this (Nat.lt_irrefl _)
    · rcases List.mem_cons.mp h2 with e2 | k2
      · have := hp.1 (f p) (List.mem_map.mpr ⟨p, k1, rfl⟩)
        rw [e, e2] at this
        exact absurd this (Nat.lt_irrefl _)
      · exact incA_eq hp.2 k1 k2 e
def exB (R : Str) (errs : List Str) (qs : List (Str × Str)) (K : PySem.W.Frag) : Bool := noLst K && (((List.range errs.length).all fun j => errB K R errs j (errs.getD j "")) && decide (PySem.W.typeIn K (.ref (He.fAd K (R, some "__init__"))) = some (.type "function")) &&
  (match PySem.W.findCls K (.type "ValueError") (.type "type") "__init__" with
    | some (.val (.builtin n)) => decide (n = "ValueError.__init__")
    | _ => false) &&
  incA (qs.map fun p => (He.cT K (p.1, none)).2))
theorem getD_of {l : List Str} {i : Nat} {y : Str} (h : l[i]? = some y) : l.getD i "" = y := by
  rw [List.getD_eq_getElem?_getD, h]; rfl
def caOf (K : PySem.W.Frag) (errs : List Str) : Nat → Option Addr := fun c => (errs[c]?).map (He.ga K)
theorem ca_some {K : PySem.W.Frag} {errs : List Str} {c : Nat} {A : Addr} (h : caOf K errs c = some A) : ∃ y, errs[c]? = some y ∧ A = He.ga K y := by
  unfold caOf at h
  cases e : errs[c]? with
  | none => rw [e] at h; cases h
  | some y => rw [e] at h; cases h; exact ⟨y, rfl, rfl⟩
theorem rng_of {l : List Str} {i : Nat} {y : Str} (h : l[i]? = some y) : i ∈ List.range l.length := List.mem_range.mpr (List.getElem?_eq_some_iff.mp h).1
theorem err_of {K : PySem.W.Frag} {R : Str} {errs : List Str} {qs : List (Str × Str)} (h : exB R errs qs K = true) {c : Nat} {y : Str} (hc : errs[c]? = some y) : errB K R errs c y = true := by
  obtain ⟨_, h⟩ := andE h
  obtain ⟨h, _⟩ := andE h
  obtain ⟨h, _⟩ := andE h
  obtain ⟨h, _⟩ := andE h
  have := List.all_eq_true.mp h c (rng_of hc)
  rw [getD_of hc] at this
  exact this
theorem errK_of {K : PySem.W.Frag} {R : Str} {errs : List Str} {qs : List (Str × Str)} {hs : List (Str × Nat)} (h : exB R errs qs K = true) (hh : hs.all (fun p => decide (p.2 < errs.length)) = true) {j : Nat} {A : Addr} (hA : caOf K errs j = some A) : ErrK K (caOf K errs) (He.ga K R) hs j A := by
  obtain ⟨y, hy, ey⟩ := ca_some hA
  subst ey
  have e := err_of h hy
  obtain ⟨e, e7⟩ := andE e
  obtain ⟨e, e6⟩ := andE e
  obtain ⟨e, e5⟩ := andE e
  obtain ⟨e, e4⟩ := andE e
  obtain ⟨e, e3⟩ := andE e
  obtain ⟨e1, e2⟩ := andE e
  refine ⟨excB_ok e2, xfB_ok e3, of_decide_eq_true e4, of_decide_eq_true e6, fun p hp => ?_⟩
  have lt := of_decide_eq_true (List.all_eq_true.mp hh p hp)
  have hz : errs[p.2]? = some errs[p.2] := by simp [lt]
  refine ⟨He.ga K errs[p.2], by unfold caOf; rw [hz]; rfl, ?_⟩
  have := of_decide_eq_true (List.all_eq_true.mp e7 p.2 (List.mem_range.mpr lt))
  rw [getD_of hz] at this
  exact this
end Pv
end
section
set_option linter.all false
set_option maxRecDepth 100000
set_option maxHeartbeats 4000000
namespace Pv
open PySem PySem.Spec PySem.SeqAt PyProof.Rows L2 LamX

/-! Pv31: plain parameters; from the head to the promise of the law's def -/
theorem zip_get : ∀ {ps : List Str} {us : List Value} {p : Str}, us.length = ps.length → p ∈ ps → ∃ u, (ps.zip us).lookup p = some u
  | [], _, p, _, h => by cases h
  | q :: ps, [], p, hl, _ => by cases hl
  | q :: ps, u :: us, p, hl, h => by
    rw [List.zip_cons_cons, List.lookup_cons]
    by_cases e : p = q
    · subst e
      exact ⟨u, by simp⟩
    · have e' : (p == q) = false := by simpa using e
      rw [e']
      exact zip_get (by simpa using hl) ((List.mem_cons.mp h).resolve_left e)
theorem zip_all : ∀ {ps : List Str} {us : List Value} {pre : List (Str × Value)}, ps.Nodup → us.length = ps.length → (∀ p ∈ ps, pre.lookup p = none) → ps.filterMap (fun n => ((pre ++ ps.zip us).lookup n).map (n, ·)) = ps.zip us
  | [], _, _, _, _, _ => rfl
  | q :: ps, [], _, _, hl, _ => by cases hl
  | q :: ps, u :: us, pre, nd, hl, hp => by
    have nd' := List.nodup_cons.mp nd
    have e0 : (pre ++ (q, u) :: ps.zip us).lookup q = some u := by
      rw [List.lookup_append, hp q List.mem_cons_self]
      simp
    have e1 : pre ++ (q, u) :: ps.zip us = (pre ++ [(q, u)]) ++ ps.zip us := by simp
    rw [List.zip_cons_cons, List.filterMap_cons, e0]
    simp only [Option.map_some]
    rw [e1, zip_all nd'.2 (by simpa using hl) fun p h => by
      rw [List.lookup_append, hp p (List.mem_cons_of_mem _ h)]
      have : (p == q) = false := by
        have : p ≠ q := fun z => nd'.1 (z ▸ h)
        simpa using this
      simp [List.lookup, this]]
def plainP (ps : List Str) (a : Arguments) : Bool := (match a with
  | ⟨[], _, none, [], _, none, _⟩ => true
  | _ => false) && decide (a.args.map (·.arg) = ps) && decide ps.Nodup
theorem bind_plain {x qual : Str} {body : List Stmt} {sc : Scope} {kV doc pm : Value} {an : Option Addr} {cdv ct : Value} {ps : List Str} {a : Arguments} (h : plainP ps a = true) {us : List Value} (hl : us.length = ps.length) :
    bindArgs (PySem.W.fnOf x qual a body sc .none kV doc pm an cdv ct) ⟨us, []⟩ = pure (ps.zip us) := by
  obtain ⟨h, h3⟩ := andE h
  obtain ⟨h1, h2⟩ := andE h
  have e2 := of_decide_eq_true h2
  have nd := of_decide_eq_true h3
  obtain ⟨po, ar, va, ko, kd, kw, df⟩ := a
  have e2 : ar.map (·.arg) = ps := e2
  have q : po = [] ∧ va = none ∧ ko = [] ∧ kw = none := by
    cases po with
    | cons _ _ => cases h1
    | nil =>
      cases va with
      | some _ => cases h1
      | none =>
        cases ko with
        | cons _ _ => cases h1
        | nil =>
          cases kw with
          | some _ => cases h1
          | none => exact ⟨rfl, rfl, rfl, rfl⟩
  obtain ⟨rfl, rfl, rfl, rfl⟩ := q
  have miss : ps.filter (fun n => ((ps.zip us).lookup n).isNone) = [] := by
    rw [List.filter_eq_nil_iff]
    intro p hp
    obtain ⟨u, hu⟩ := zip_get hl hp
    rw [hu]; simp
  have all := zip_all (pre := []) nd hl (fun _ _ => rfl)
  rw [List.nil_append] at all
  unfold bindArgs PySem.W.fnOf
  simp [e2, hl, seqItems?, miss, all]
  rfl
end Pv
end
section
set_option linter.all false
set_option maxRecDepth 100000
set_option maxHeartbeats 4000000
namespace Pv
open PySem PySem.Spec PySem.SeqAt PyProof.Rows L2 LamX

/-! Pv32: from the head to all defs -/
def rowD (r : Row) : He.DefD := ⟨(r.name, none), r.name, r.name, r.params, r.body, r.scope, [], []⟩
def hearD (h : Hear) : He.DefD := ⟨(h.x, none), h.x, h.x, h.pg, h.bg, h.sg, [], []⟩
def initD (R : Str) (ini : Stmt) : He.DefD := ⟨(R, some "__init__"), "__init__", R ++ ".__init__", defArgs ini, defBody ini, defScope ini, [], []⟩
def fnT (t : Txt0) (R : Str) (ini : Stmt) : List He.DefD := initD R ini :: (t.rows.map rowD ++ t.rs.map hearD)
def constF : Str × D → He.Fa
  | (n, .int i) => .int n i
  | (n, _) => .glo n
def faT (t : Txt0) (R : Str) : List He.Fa := t.rows.map (fun r => .glo r.name) ++ (t.rs.map (fun h => .glo h.x) ++ (t.errs.map .glo ++ ([.glo R, .free "ValueError"] ++ (t.tb.bis.map .free ++ t.tb.consts.map constF))))
def tfT (t : Txt0) : List He.Defn := t.rows.map fun r => (r.name, none)
def qOf (n : Str) : Str := (envOfC n ⟨.function, [], false, false, []⟩ 0 0 .none).qual ++ "<lambda>"
def qsT (t : Txt0) : List (Str × Str) := t.rows.map fun r => (r.name, qOf r.name)
def tabT (K : PySem.W.Frag) (t : Txt0) : List (Addr × Str) := t.rows.map fun r => ((He.cT K (r.name, none)).2, qOf r.name)
def isInt : D → Bool
  | .int _ => true
  | _ => false
def Txt0.more (t : Txt0) (R : Str) (ini : Stmt) (a b : Str) : Bool := t.rows.all (fun r => plainP r.ps r.params) &&
  t.rs.all (fun h => plainP [h.m.a] h.pg && hearC h.m h.R t.errs h.hs h.sg h.bg && plcC h.m h.R h.hs h.sg && decide (h.R = R) && h.hs.all (fun p => decide (p.2 < t.errs.length))) &&
  (C8.scC [a, b] [a, b] (defScope ini) && initC a b (defBody ini) && (okNm a && okNm b) && glC (defScope ini) "ValueError" && plainP [a, b] (defArgs ini)) && t.tb.consts.all (fun p => isInt p.2) && t.tb.bis.contains "isinstance"
section
variable {P : Program} {w : World} {K : PySem.W.Frag} {mg : Str → Option Value} {h base : Heap} {t : Txt0} {R a b : Str} {ini : Stmt}
theorem lookup_mem {l : List (Str × D)} {n : Str} {d : D} (h : l.lookup n = some d) : (n, d) ∈ l := PySem.mem_of_lookup h
theorem headF_of (X : K.In h) (G : h.Ns mainGlobals mg) (c : He.SaysX (faT t R) (fnT t R ini) [] (tfT t) (exB R t.errs (qsT t)) w h K) (hm : t.more R ini a b = true) (TB : ∀ p ∈ (tfT t).map (He.cT K), TabB base mg p.1 p.2) : HeadF P w K mg base (tabT K t) (caOf K t.errs) t := by
  obtain ⟨hm, m5⟩ := andE hm
  obtain ⟨hm, m4⟩ := andE hm
  obtain ⟨hm, m3⟩ := andE hm
  obtain ⟨m1, m2⟩ := andE hm
  obtain ⟨m3, i5⟩ := andE m3
  obtain ⟨m3, i4⟩ := andE m3
  obtain ⟨m3, i3⟩ := andE m3
  obtain ⟨i1, i2⟩ := andE m3
  have D0 := c.t.d
  have ex := c.more
  obtain ⟨exl, ex0⟩ := andE ex
  have fact : ∀ {f : He.Fa}, f ∈ faT t R → f.ok K = true := fun hf => D0.facts hf
  have gR : mg R = some (.ref (He.ga K R)) := He.glo_ok X G (fact (by unfold faT; simp))
  have gE : ∀ y ∈ t.errs, mg y = some (.ref (He.ga K y)) := fun y hy => He.glo_ok X G (fact (by unfold faT; simp [hy]))
  have fB : ∀ y ∈ t.tb.bis, mg y = none := fun y hy => He.free_ok X G (fact (by unfold faT; simp [hy]))
  have fV : mg "ValueError" = none := He.free_ok X G (fact (by unfold faT; simp))
  have isi : mg "isinstance" = none := fB _ (List.contains_iff_mem.mp m5)
  have errn : ∀ c y, t.errs[c]? = some y → caOf K t.errs c = some (He.ga K y) ∧ mg y = some (.ref (He.ga K y)) := fun c y e => ⟨by unfold caOf; rw [e]; rfl, gE y (List.mem_of_getElem? e)⟩
  obtain ⟨ex1, exq⟩ := andE ex0
  obtain ⟨ex1, exf⟩ := andE ex1
  obtain ⟨_, ext⟩ := andE ex1
  refine ⟨fun n d hl => ?_, fun n hn => fB n (List.contains_iff_mem.mp hn), fun r hr => ?_, fun cc y hy => ?_⟩
  · have hmem := lookup_mem hl
    have hi := List.all_eq_true.mp m4 _ hmem
    cases d with
    | int i =>
      have : He.Fa.int n i ∈ faT t R := by
        unfold faT
        refine List.mem_append_right _ (List.mem_append_right _ (List.mem_append_right _ (List.mem_append_right _ (List.mem_append_right _ ?_))))
        exact List.mem_map.mpr ⟨_, hmem, rfl⟩
      obtain ⟨tk, e⟩ := He.int_ok X G (fact this)
      exact ⟨.int i, _, e, ⟨tk, rfl⟩, fun L β H => by rw [Rp]⟩
    | _ => cases hi
  · obtain ⟨fd, F⟩ := D0.defs (d := rowD r) (by unfold fnT; exact List.mem_cons_of_mem _ (List.mem_append_left _ (List.mem_map.mpr ⟨r, hr, rfl⟩)))
    have F : FunD K r.name r.name r.params r.body r.scope [] [] (He.ga K r.name) fd := F
    refine ⟨He.ga K r.name, fd, He.glo_ok X G (fact (by unfold faT; exact List.mem_append_left _ (List.mem_map.mpr ⟨r, hr, rfl⟩))), F, F.bindsN fun _ _ _ _ _ _ us hl => bind_plain (List.all_eq_true.mp m1 r hr) hl, fun cdv A outer s H E hlk hcd => ?_⟩
    obtain ⟨oc, od, dV, kV, doc, pm, an, ct, osl, lk⟩ := hlk
    obtain ⟨c0, ec⟩ := He.codeIn_ref hcd
    have hc0 : He.codeOf K (r.name, none) = c0 := He.codeOf_eq (p := (r.name, none)) lk ec
    have memt : (r.name, none) ∈ tfT t := List.mem_map.mpr ⟨r, hr, rfl⟩
    refine ⟨⟨c0, (He.cT K (r.name, none)).2, ec, ?_, ?_, fun p hp e => ?_⟩, isi, fun cc y hy => ⟨_, (errn cc y hy).1, (errn cc y hy).2⟩, fun f hr' hf => ?_⟩
    · have := TB (He.cT K (r.name, none)) (List.mem_map.mpr ⟨_, memt, rfl⟩)
      rw [show (He.cT K (r.name, none)).1 = c0 from hc0] at this
      exact this
    · exact List.mem_map.mpr ⟨r, hr, rfl⟩
    · obtain ⟨r2, hr2, e2⟩ := List.mem_map.mp hp
      subst e2
      have q := incA_eq (f := fun p : Str × Str => (He.cT K (p.1, none)).2) (incA_pw exq) (p := (r2.name, qOf r2.name)) (q := (r.name, qOf r.name)) (List.mem_map.mpr ⟨r2, hr2, rfl⟩) (List.mem_map.mpr ⟨r, hr, rfl⟩) e
      exact (Prod.mk.inj q).2
    · have hmem := List.mem_of_getElem? hf
      have k := List.all_eq_true.mp m2 hr' hmem
      obtain ⟨k, k5⟩ := andE k
      obtain ⟨k, k4⟩ := andE k
      obtain ⟨k, k3⟩ := andE k
      obtain ⟨k1, k2⟩ := andE k
      have eR := of_decide_eq_true k4
      obtain ⟨fd2, F2⟩ := D0.defs (d := hearD hr') (by unfold fnT; exact List.mem_cons_of_mem _ (List.mem_append_right _ (List.mem_map.mpr ⟨hr', hmem, rfl⟩)))
      have F2 : FunD K hr'.x hr'.x hr'.pg hr'.bg hr'.sg [] [] (He.ga K hr'.x) fd2 := F2
      have b2 : Binds K fd2 [hr'.m.a] [] := F2.bindsN fun _ _ _ _ _ _ us hl => bind_plain k1 hl
      have g2 : mg hr'.x = some (.ref (He.ga K hr'.x)) := He.glo_ok X G (fact (by unfold faT; exact List.mem_append_right _ (List.mem_append_left _ (List.mem_map.mpr ⟨hr', hmem, rfl⟩))))
      obtain ⟨oc2, od2, dV2, kV2, doc2, pm2, an2, cdv2, ct2, osl2, efd, lk2, hcd2, _, _⟩ := F2.ex
      refine ⟨⟨He.ga K hr'.x, cdv2, g2, F2.kp, hr'.pg, dV2, kV2, doc2, pm2, ct2, oc2, an2, od2, osl2, efd ▸ lk2, hcd2, efd ▸ b2⟩, k2, k3, He.ga K R, by rw [eR]; exact gR, fun j A hA => errK_of ex k5 hA⟩
  · obtain ⟨fdI, FI⟩ := D0.defs (d := initD R ini) (by unfold fnT; exact List.mem_cons_self)
    have FI : FunD K "__init__" (R ++ ".__init__") (defArgs ini) (defBody ini) (defScope ini) [] [] (He.fAd K (R, some "__init__")) fdI := FI
    have e := err_of ex hy
    obtain ⟨e, e7⟩ := andE e
    obtain ⟨e, e6⟩ := andE e
    obtain ⟨e, e5⟩ := andE e
    obtain ⟨e, e4⟩ := andE e
    obtain ⟨e, e3⟩ := andE e
    obtain ⟨e1, e2⟩ := andE e
    have vV : PySem.W.findCls K (.type "ValueError") (.type "type") "__init__" = some (.val (.builtin "ValueError.__init__")) := by
      split at exf
      · rename_i n hn
        rw [hn, of_decide_eq_true exf]
      · cases exf
    exact ⟨He.ga K y, He.fAd K (R, some "__init__"), fdI, [a, b], 1, (errn cc y hy).1, (errn cc y hy).2, oexB_ok e1, of_decide_eq_true e5, of_decide_eq_true ext, FI.bindsN fun _ _ _ _ _ _ us hl => bind_plain i5 hl, by decide, init_ok FI i1 i2 i3 i4 fV vV, of_decide_eq_true e4⟩
end
end Pv
end
section
set_option linter.all false
set_option maxRecDepth 100000
set_option maxHeartbeats 4000000
namespace Pv
open PySem PySem.Spec PySem.SeqAt PyProof.Rows L2 LamX

/-! Pv33: the law's def -/
theorem script_rps {K : PySem.W.Frag} {L : Addr → Prop} {β : List Addr} {H : Hp} : ∀ ns : List Int, Rps K L β H (ns.map PyData.int) (ns.map V.int)
  | [] => Rps.nil
  | n :: ns => Rps.cons (by rw [Rp]) (script_rps ns)
theorem law_at {l : PySem.W.OpenLaw} {w : World} {K : PySem.W.Frag} {mg : Str → Option Value} {h : Heap} {t : Txt0} {R a b x : Str} {ini : Stmt} {fa : Addr} {i F n : Nat} {r : Row} (X : K.In h) (G : h.Ns mainGlobals mg)
    (c : He.SaysX (faT t R) (fnT t R ini) [] (tfT t) (exB R t.errs (qsT t)) w h K) (hc : t.chk = true) (hm : t.more R ini a b = true) (hr : t.rows[i]? = some r) (hx : r.ps = [x]) (hfa : mg r.name = some (.ref fa)) (hn : n ≤ 1000)
    (plain : ∀ ns : List Int, ns.length ≤ n → (∀ z ∈ ns, Builtin.Int.intBits z ≤ 1048576) → ∃ fr B', callF t.G (F + 1) i [.list (ns.map .int)] [] = .ok (.bool true, fr) B') : LawAtS l w K (L2N.CX l.prog w) (4 * F + 8) n x mg fa h := by
  have mem := List.mem_of_getElem? hr
  obtain ⟨fd, D⟩ := c.t.d.defs (d := rowD r) (by unfold fnT; exact List.mem_cons_of_mem _ (List.mem_append_left _ (List.mem_map.mpr ⟨r, mem, rfl⟩)))
  have D : FunD K r.name r.name r.params r.body r.scope [] [] (He.ga K r.name) fd := D
  have eg : mg r.name = some (.ref (He.ga K r.name)) := He.glo_ok X G (c.t.d.facts (by unfold faT; exact List.mem_append_left _ (List.mem_map.mpr ⟨r, mem, rfl⟩)))
  rw [hfa] at eg
  cases eg
  have hm0 := hm
  obtain ⟨hm0, _⟩ := andE hm0
  obtain ⟨hm0, _⟩ := andE hm0
  obtain ⟨hm0, _⟩ := andE hm0
  obtain ⟨m1, _⟩ := andE hm0
  have rowc := (andE hc).1
  have hG : t.G[i]? = some r.fd := by
    unfold Txt0.G
    rw [List.getElem?_map, hr]; rfl
  refine ⟨fd, (tfT t).map (He.cT K), spF K (tabT K t) (caOf K t.errs) (callF t.G (F + 1)) i, fun p hp => ?_, fun p hp => ?_, fun p hp => ?_, fun s u => ?_, fun H a2 ns hl hb hT hS => ?_, fun base Xb Gb TB => ?_⟩
  · obtain ⟨q, hq, e⟩ := List.mem_map.mp hp
    rw [← e]; exact c.empty q hq
  · obtain ⟨q, hq, e⟩ := List.mem_map.mp hp
    rw [← e]; exact c.out q hq
  · obtain ⟨q, hq, e⟩ := List.mem_map.mp hp
    rw [← e]; exact PySem.W.codeHd_of_K X (c.hd q hq)
  · have := FunD.bindsA (ps := r.ps) D (fun _ _ _ _ _ _ us hl => bind_plain (List.all_eq_true.mp m1 r mem) hl) s [u] (by rw [hx]; rfl)
    rw [hx] at this
    exact this
  · obtain ⟨fr, B', e⟩ := plain ns hl hb
    have rd := noLst_of (andE c.more).1 hS
    have tabs : Tabs (tabT K t) H := fun p hp => by
      obtain ⟨r2, hr2, e2⟩ := List.mem_map.mp hp
      subst e2
      exact TabS.nil (hT _ (List.mem_map.mpr ⟨(r2.name, none), List.mem_map.mpr ⟨r2, hr2, rfl⟩, rfl⟩))
    refine ⟨fun _ => False, [], [], [.list (ns.map .int)], ⟨rfl, List.nodup_nil, fun _ z => z.elim, fun l xs z => by simp at z, tabs⟩, Rps.cons ?_ Rps.nil, ?_⟩
    · rw [Rp]
      refine ⟨a2, ns.map V.int, rfl, fun z => z.elim id (fun z => by simp at z), rd, ?_, script_rps ns⟩
      rw [List.length_map]
      have : (1001 : Nat) < sizeLine := by decide
      omega
    · rw [e]
      intro v β' H' _ _ rp _
      have rp : Rp K (fun _ => False) β' H' (.bool true) v := rp
      rw [Rp] at rp
      exact rp
  · have hf := headF_of (P := l.prog) (w := w) (base := base) X G c hm TB
    obtain ⟨a3, fd3, q1, _, _, q4⟩ := hf.fns r mem
    rw [hfa] at q1
    cases q1
    have := fn_ok (all_env hf hc F) D hG hdH_ok q4 (List.all_eq_true.mp rowc r mem)
    rw [hx] at this
    exact this
end Pv
end
section
set_option maxRecDepth 100000
namespace K05
open PySem Pv

abbrev e_BadLand : Nat := 0
abbrev e_BadRegion : Nat := 1
abbrev e_BadVans : Nat := 2
abbrev e_BadPlace : Nat := 3
abbrev e_TooMany : Nat := 4
abbrev e_NoVan : Nat := 5
def heard0 : List (Str × Nat) := [("BadLand", 0), ("BadRegion", 1), ("TooMany", 4), ("BadVans", 2), ("BadPlace", 3), ("NoVan", 5)]
/-- whole(thing, low, high)  slots: 0 thing 1 low 2 high -/
def F_whole : FnD := ⟨3, 3, .seq (.ret (.and (.bi (.isI .int) (.cons (.v 0) .nil)) (.and (.not (.bi (.isI .bool) (.cons (.v 0) .nil))) (.cmp2 .LtE .LtE (.v 1) (.v 0) (.v 2))))) (.nop)⟩
/-- is_pair(thing)  slots: 0 thing -/
def F_is_pair : FnD := ⟨1, 1, .seq (.ret (.and (.bi (.isI .tuple) (.cons (.v 0) .nil)) (.cmp .Eq (.bi .len (.cons (.v 0) .nil)) (.g "PAIR" (.int 2))))) (.nop)⟩
/-- is_place(thing)  slots: 0 thing -/
def F_is_place : FnD := ⟨1, 1, .seq (.iff (.or (.not (.call 1 (.cons (.v 0) .nil))) (.not (.call 0 (.cons (.idx (.v 0) (.k (.int 0))) (.cons (.k (.int 0)) (.cons (.g "MOST_FLOOR" (.int 1000000)) .nil)))))) (.seq (.ret (.k (.bool false))) (.nop)) (.nop)) (.seq (.ret (.or (.call 0 (.cons (.idx (.v 0) (.k (.int 1))) (.cons (.neg (.k (.int 1))) (.cons (.neg (.k (.int 1))) .nil)))) (.call 0 (.cons (.idx (.v 0) (.k (.int 1))) (.cons (.idx (.v 0) (.k (.int 0))) (.cons (.g "MOST_MANY" (.int 10000000)) .nil)))))) (.nop))⟩
/-- is_places_lot(count, thing)  slots: 0 count 1 thing 2 least 3 place -/
def L_is_places_lot_0 : S := .seq (.iff (.not (.call 0 (.cons (.v 3) (.cons (.v 2) (.cons (.bin .Sub (.v 0) (.k (.int 1))) .nil))))) (.seq (.ret (.k (.bool false))) (.nop)) (.nop)) (.seq (.set false 2 (.bin .Add (.v 3) (.k (.int 1)))) (.nop))
def F_is_places_lot : FnD := ⟨2, 4, .seq (.iff (.or (.not (.bi (.isI .tuple) (.cons (.v 1) .nil))) (.not (.cmp2 .LtE .Lt (.g "LEAST_LOT" (.int 2)) (.bi .len (.cons (.v 1) .nil)) (.v 0)))) (.seq (.ret (.k (.bool false))) (.nop)) (.nop)) (.seq (.set false 2 (.k (.int 0))) (.seq (.for (.n 3) (.v 1) L_is_places_lot_0) (.seq (.ret (.k (.bool true))) (.nop))))⟩
/-- are_nested(one, two)  slots: 0 one 1 two 2 common 3 place -/
def F_are_nested : FnD := ⟨2, 4, .seq (.set false 2 (.lc (.n 3) [3] (.v 3) (.v 0) (.cmp .In (.v 3) (.v 1)))) (.seq (.ret (.or (.cmp .Eq (.v 2) (.lst .nil)) (.cmp .Eq (.bi .len (.cons (.v 2) .nil)) (.bi .min2 (.cons (.bi .len (.cons (.v 0) .nil)) (.cons (.bi .len (.cons (.v 1) .nil)) .nil)))))) (.nop))⟩
/-- is_region(places, ahead, thing)  slots: 0 places 1 ahead 2 thing 3 lot 4 other 5 floor 6 place -/
def F_is_region : FnD := ⟨3, 7, .seq (.iff (.or (.not (.call 1 (.cons (.v 2) .nil))) (.or (.not (.call 3 (.cons (.bi .len (.cons (.v 0) .nil)) (.cons (.idx (.v 2) (.k (.int 0))) .nil)))) (.not (.call 0 (.cons (.idx (.v 2) (.k (.int 1))) (.cons (.k (.int 0)) (.cons (.g "MOST_MANY" (.int 10000000)) .nil))))))) (.seq (.ret (.k (.bool false))) (.nop)) (.nop)) (.seq (.set false 3 (.idx (.v 2) (.k (.int 0)))) (.seq (.iff (.or (.and (.cmp .NotEq (.v 1) (.lst .nil)) (.cmp .LtE (.v 3) (.idx (.idx (.v 1) (.neg (.k (.int 1)))) (.k (.int 0))))) (.bi .any (.cons (.lc (.n 6) [6] (.cmp .NotEq (.idx (.idx (.v 0) (.v 6)) (.k (.int 1))) (.neg (.k (.int 1)))) (.v 3) (.k (.bool true))) .nil))) (.seq (.ret (.k (.bool false))) (.nop)) (.nop)) (.seq (.ret (.bi .all (.cons (.lc (.tp (.cons (.n 4) (.cons (.n 5) .nil))) [4, 5] (.call 4 (.cons (.v 3) (.cons (.v 4) .nil))) (.v 1) (.k (.bool true))) .nil))) (.nop))))⟩
/-- land_fault(thing)  slots: 0 thing 1 places 2 regions 3 at 4 place 5 ahead 6 region 7 one -/
def L_land_fault_0 : S := .seq (.iff (.not (.call 5 (.cons (.v 1) (.cons (.v 5) (.cons (.v 6) .nil))))) (.seq (.ret (.tup (.cons (.k (.str "BadRegion")) (.cons (.v 3) .nil)))) (.nop)) (.nop)) (.seq (.app 5 (.v 6)) (.nop))
def L_land_fault_1 : S := .seq (.iff (.not (.call 2 (.cons (.v 4) .nil))) (.seq (.ret (.tup (.cons (.k (.str "BadLand")) (.cons (.v 3) .nil)))) (.nop)) (.nop)) (.nop)
def F_land_fault : FnD := ⟨1, 8, .seq (.iff (.or (.not (.call 1 (.cons (.v 0) .nil))) (.not (.bi .all (.cons (.lc (.n 7) [7] (.bi (.isI .tuple) (.cons (.v 7) .nil)) (.v 0) (.k (.bool true))) .nil)))) (.seq (.ret (.tup (.cons (.k (.str "BadLand")) (.cons (.neg (.k (.int 1))) .nil)))) (.nop)) (.nop)) (.seq (.unp (.tp (.cons (.n 1) (.cons (.n 2) .nil))) (.v 0)) (.seq (.iff (.cmp .Gt (.bi .len (.cons (.v 1) .nil)) (.g "MOST_PLACES" (.int 40))) (.seq (.ret (.tup (.cons (.k (.str "TooMany")) (.cons (.bi .len (.cons (.v 1) .nil)) .nil)))) (.nop)) (.nop)) (.seq (.for (.tp (.cons (.n 3) (.cons (.n 4) .nil))) (.enum (.v 1)) L_land_fault_1) (.seq (.set true 5 (.lst .nil)) (.seq (.for (.tp (.cons (.n 3) (.cons (.n 6) .nil))) (.enum (.v 2)) L_land_fault_0) (.seq (.ret (.k .none)) (.nop)))))))⟩
/-- asked_land(land)  slots: 0 land 1 fault -/
def F_asked_land : FnD := ⟨1, 2, .seq (.set false 1 (.call 6 (.cons (.v 0) .nil))) (.seq (.iff (.cmp .Is (.v 1) (.k .none)) (.seq (.retN) (.nop)) (.nop)) (.seq (.iff (.cmp .Eq (.idx (.v 1) (.k (.int 0))) (.k (.str "TooMany"))) (.seq (.raise 4 (.idx (.v 1) (.k (.int 1)))) (.nop)) (.nop)) (.seq (.iff (.cmp .Eq (.idx (.v 1) (.k (.int 0))) (.k (.str "BadRegion"))) (.seq (.raise 1 (.idx (.v 1) (.k (.int 1)))) (.nop)) (.nop)) (.seq (.raise 0 (.idx (.v 1) (.k (.int 1)))) (.nop)))))⟩
/-- asked_place(land, v)  slots: 0 land 1 v -/
def F_asked_place : FnD := ⟨2, 2, .seq (.iff (.not (.call 0 (.cons (.v 1) (.cons (.k (.int 0)) (.cons (.bin .Sub (.bi .len (.cons (.idx (.v 0) (.k (.int 0))) .nil)) (.k (.int 1))) .nil))))) (.seq (.raise 3 (.v 1)) (.nop)) (.nop)) (.nop)⟩
/-- vans_fault(land, thing)  slots: 0 land 1 thing 2 at 3 number -/
def L_vans_fault_0 : S := .seq (.iff (.not (.call 0 (.cons (.v 3) (.cons (.k (.int 0)) (.cons (.g "MOST_MANY" (.int 10000000)) .nil))))) (.seq (.ret (.v 2)) (.nop)) (.nop)) (.nop)
def F_vans_fault : FnD := ⟨2, 4, .seq (.iff (.or (.not (.bi (.isI .tuple) (.cons (.v 1) .nil))) (.cmp .NotEq (.bi .len (.cons (.v 1) .nil)) (.bi .len (.cons (.idx (.v 0) (.k (.int 0))) .nil)))) (.seq (.ret (.neg (.k (.int 1)))) (.nop)) (.nop)) (.seq (.for (.tp (.cons (.n 2) (.cons (.n 3) .nil))) (.enum (.v 1)) L_vans_fault_0) (.seq (.ret (.k .none)) (.nop)))⟩
/-- asked_vans(land, vans)  slots: 0 land 1 vans 2 fault -/
def F_asked_vans : FnD := ⟨2, 3, .seq (.set false 2 (.call 9 (.cons (.v 0) (.cons (.v 1) .nil)))) (.seq (.iff (.cmp .IsNot (.v 2) (.k .none)) (.seq (.raise 2 (.v 2)) (.nop)) (.nop)) (.nop))⟩
/-- sum_in(vans, lot)  slots: 0 vans 1 lot 2 place -/
def F_sum_in : FnD := ⟨2, 3, .seq (.ret (.bi .sum (.cons (.lc (.n 2) [2] (.idx (.v 0) (.v 2)) (.v 1) (.k (.bool true))) .nil))) (.nop)⟩
/-- one_moved(vans, u, v)  slots: 0 vans 1 u 2 v 3 later -/
def F_one_moved : FnD := ⟨3, 4, .seq (.set true 3 (.bi .list (.cons (.v 0) .nil))) (.seq (.put 3 (.v 1) (.bin .Sub (.idx (.v 3) (.v 1)) (.k (.int 1)))) (.seq (.put 3 (.v 2) (.bin .Add (.idx (.v 3) (.v 2)) (.k (.int 1)))) (.seq (.ret (.bi .tuple (.cons (.v 3) .nil))) (.nop))))⟩
/-- moved(land, vans, u, v)  slots: 0 land 1 vans 2 u 3 v -/
def F_moved : FnD := ⟨4, 4, .seq (.ex (.call 7 (.cons (.v 0) .nil))) (.seq (.ex (.call 10 (.cons (.v 0) (.cons (.v 1) .nil)))) (.seq (.ex (.call 8 (.cons (.v 0) (.cons (.v 2) .nil)))) (.seq (.ex (.call 8 (.cons (.v 0) (.cons (.v 3) .nil)))) (.seq (.iff (.cmp .Eq (.idx (.v 1) (.v 2)) (.k (.int 0))) (.seq (.raise 5 (.v 2)) (.nop)) (.nop)) (.seq (.ret (.call 12 (.cons (.v 1) (.cons (.v 2) (.cons (.v 3) .nil))))) (.nop))))))⟩
/-- limits_in(land)  slots: 0 land 1 found 2 at 3 floor 4 room -/
def F_limits_in : FnD := ⟨1, 5, .seq (.set true 1 (.lc (.n 2) [2] (.tup (.cons (.k (.str "floor")) (.cons (.v 2) .nil))) (.rng (.cons (.bi .len (.cons (.idx (.v 0) (.k (.int 0))) .nil)) .nil)) (.k (.bool true)))) (.seq (.ext 1 (.lc (.n 2) [2] (.tup (.cons (.k (.str "region")) (.cons (.v 2) .nil))) (.rng (.cons (.bi .len (.cons (.idx (.v 0) (.k (.int 1))) .nil)) .nil)) (.k (.bool true)))) (.seq (.ret (.bin .Add (.v 1) (.lc (.tp (.cons (.n 2) (.cons (.tp (.cons (.n 3) (.cons (.n 4) .nil))) .nil))) [2, 3, 4] (.tup (.cons (.k (.str "room")) (.cons (.v 2) .nil))) (.enum (.idx (.v 0) (.k (.int 0)))) (.cmp .NotEq (.v 4) (.neg (.k (.int 1))))))) (.nop)))⟩
/-- lot_in(land, limit)  slots: 0 land 1 limit 2 sort 3 at 4 place -/
def F_lot_in : FnD := ⟨2, 5, .seq (.unp (.tp (.cons (.n 2) (.cons (.n 3) .nil))) (.v 1)) (.seq (.iff (.cmp .Eq (.v 2) (.k (.str "floor"))) (.seq (.ret (.tup (.cons (.v 3) .nil))) (.nop)) (.nop)) (.seq (.iff (.cmp .Eq (.v 2) (.k (.str "region"))) (.seq (.ret (.idx (.idx (.idx (.v 0) (.k (.int 1))) (.v 3)) (.k (.int 0)))) (.nop)) (.nop)) (.seq (.ret (.bi .tuple (.cons (.lc (.n 4) [4] (.v 4) (.rng (.cons (.bi .len (.cons (.idx (.v 0) (.k (.int 0))) .nil)) .nil)) (.cmp .NotEq (.v 4) (.v 3))) .nil))) (.nop))))⟩
/-- spare_in(land, vans, limit)  slots: 0 land 1 vans 2 limit 3 sort 4 at 5 floor -/
def F_spare_in : FnD := ⟨3, 6, .seq (.unp (.tp (.cons (.n 3) (.cons (.n 4) .nil))) (.v 2)) (.seq (.iff (.cmp .Eq (.v 3) (.k (.str "room"))) (.seq (.ret (.bin .Sub (.idx (.idx (.idx (.v 0) (.k (.int 0))) (.v 4)) (.k (.int 1))) (.idx (.v 1) (.v 4)))) (.nop)) (.nop)) (.seq (.set false 5 (.ite (.cmp .Eq (.v 3) (.k (.str "floor"))) (.idx (.idx (.idx (.v 0) (.k (.int 0))) (.v 4)) (.k (.int 0))) (.idx (.idx (.idx (.v 0) (.k (.int 1))) (.v 4)) (.k (.int 1))))) (.seq (.ret (.bin .Sub (.call 11 (.cons (.v 1) (.cons (.call 15 (.cons (.v 0) (.cons (.v 2) .nil))) .nil))) (.v 5))) (.nop))))⟩
/-- under_way(land, limit, away)  slots: 0 land 1 limit 2 away 3 sort 4 at 5 lot 6 u 7 v -/
def F_under_way : FnD := ⟨3, 8, .seq (.unp (.tp (.cons (.n 3) (.cons (.n 4) .nil))) (.v 1)) (.seq (.iff (.cmp .Eq (.v 3) (.k (.str "floor"))) (.seq (.ret (.k (.int 0))) (.nop)) (.nop)) (.seq (.iff (.cmp .Eq (.v 3) (.k (.str "room"))) (.seq (.ret (.neg (.bi .len (.cons (.lc (.tp (.cons (.n 6) (.cons (.n 7) .nil))) [6, 7] (.k (.int 1)) (.v 2) (.cmp .Eq (.v 7) (.v 4))) .nil)))) (.nop)) (.nop)) (.seq (.set false 5 (.idx (.idx (.idx (.v 0) (.k (.int 1))) (.v 4)) (.k (.int 0)))) (.seq (.ret (.bi .len (.cons (.lc (.tp (.cons (.n 6) (.cons (.n 7) .nil))) [6, 7] (.k (.int 1)) (.v 2) (.and (.cmp .In (.v 6) (.v 5)) (.cmp .In (.v 7) (.v 5)))) .nil))) (.nop)))))⟩
/-- spares_now(land, limits, vans, away)  slots: 0 land 1 limits 2 vans 3 away 4 limit -/
def F_spares_now : FnD := ⟨4, 5, .seq (.ret (.lc (.n 4) [4] (.bin .Add (.call 16 (.cons (.v 0) (.cons (.v 2) (.cons (.v 4) .nil)))) (.call 17 (.cons (.v 0) (.cons (.v 4) (.cons (.v 3) .nil))))) (.v 1) (.k (.bool true)))) (.nop)⟩
/-- first_below(limits, spare_list, least)  slots: 0 limits 1 spare_list 2 least 3 limit 4 number -/
def L_first_below_0 : S := .seq (.iff (.cmp .Lt (.v 4) (.v 2)) (.seq (.ret (.v 3)) (.nop)) (.nop)) (.nop)
def F_first_below : FnD := ⟨3, 5, .seq (.for (.tp (.cons (.n 3) (.cons (.n 4) .nil))) (.zip (.v 0) (.v 1)) L_first_below_0) (.seq (.ret (.k .none)) (.nop))⟩
/-- asked_standing(land, vans)  slots: 0 land 1 vans -/
def F_asked_standing : FnD := ⟨2, 2, .seq (.ex (.call 7 (.cons (.v 0) .nil))) (.seq (.ex (.call 10 (.cons (.v 0) (.cons (.v 1) .nil)))) (.nop))⟩
/-- broken(land, vans)  slots: 0 land 1 vans 2 limits -/
def F_broken : FnD := ⟨2, 3, .seq (.ex (.call 20 (.cons (.v 0) (.cons (.v 1) .nil)))) (.seq (.set false 2 (.call 14 (.cons (.v 0) .nil))) (.seq (.ret (.call 19 (.cons (.v 2) (.cons (.call 18 (.cons (.v 0) (.cons (.v 2) (.cons (.v 1) (.cons (.lst .nil) .nil))))) (.cons (.k (.int 0)) .nil))))) (.nop)))⟩
/-- _law_pool(script)  slots: 0 script 1 digits 2 stirred 3 at 4 cell -/
def L__law_pool_0 : S := .seq (.set false 4 (.bi .int (.cons (.bi .max2 (.cons (.idx (.v 0) (.v 3)) (.cons (.bin .Sub (.neg (.k (.int 1))) (.idx (.v 0) (.v 3))) .nil))) .nil))) (.seq (.set false 2 (.bin .Mod (.bi .int (.cons (.bin .Add (.bin .Add (.bin .Mult (.v 2) (.k (.int 48271))) (.bin .Mod (.v 4) (.k (.int 2147483629)))) (.k (.int 11))) .nil)) (.k (.int 2147483647)))) (.seq (.set false 1 (.ite (.and (.cmp .GtE (.v 4) (.bin .Pow (.k (.int 10)) (.k (.int 12)))) (.cmp .Lt (.v 1) (.bin .Pow (.k (.int 10)) (.k (.int 60))))) (.bi .int (.cons (.bin .Add (.bin .Mult (.v 1) (.bin .Pow (.k (.int 10)) (.k (.int 60)))) (.bin .Mod (.v 4) (.bin .Pow (.k (.int 10)) (.k (.int 60))))) .nil)) (.v 1))) (.nop)))
def F__law_pool : FnD := ⟨1, 5, .seq (.unp (.tp (.cons (.n 1) (.cons (.n 2) .nil))) (.tup (.cons (.k (.int 0)) (.cons (.k (.int 7)) .nil)))) (.seq (.for (.n 3) (.rng (.cons (.bi .len (.cons (.v 0) .nil)) .nil)) L__law_pool_0) (.seq (.ret (.box (.cons (.v 1) (.cons (.v 2) (.cons (.k (.int 0)) .nil))))) (.nop)))⟩
/-- _law_take(jar, many)  slots: 0 jar 1 many 2 made -/
def F__law_take : FnD := ⟨2, 3, .seq (.iff (.cmp .Gt (.idx (.v 0) (.k (.int 0))) (.k (.int 0))) (.seq (.set false 2 (.bin .Mod (.bi .int (.cons (.idx (.v 0) (.k (.int 0))) .nil)) (.v 1))) (.seq (.sub (.v 0) (.k (.int 0)) (.bin .FloorDiv (.idx (.v 0) (.k (.int 0))) (.v 1))) (.seq (.ret (.v 2)) (.nop)))) (.nop)) (.seq (.sub (.v 0) (.k (.int 2)) (.bin .Add (.idx (.v 0) (.k (.int 2))) (.k (.int 1)))) (.seq (.sub (.v 0) (.k (.int 1)) (.bin .Mod (.bi .int (.cons (.bin .Add (.bin .Add (.bin .Mult (.idx (.v 0) (.k (.int 1))) (.k (.int 39373))) (.bin .Mult (.k (.int 7919)) (.idx (.v 0) (.k (.int 2))))) (.k (.int 7))) .nil)) (.k (.int 2147483647)))) (.seq (.ret (.bin .Mod (.bi .int (.cons (.bin .FloorDiv (.bin .Mod (.bi .int (.cons (.bin .Mult (.idx (.v 0) (.k (.int 1))) (.idx (.v 0) (.k (.int 1)))) .nil)) (.k (.int 2147483629))) (.k (.int 32))) .nil)) (.v 1))) (.nop))))⟩
/-- _law_one(jar, things)  slots: 0 jar 1 things -/
def F__law_one : FnD := ⟨2, 2, .seq (.ret (.idx (.v 1) (.call 23 (.cons (.v 0) (.cons (.bi .len (.cons (.v 1) .nil)) .nil))))) (.nop)⟩
/-- _law_mixed(jar, things)  slots: 0 jar 1 things 2 left_now 3 made 4 go -/
def L__law_mixed_0 : S := .seq (.appPop 3 2 (.call 23 (.cons (.v 0) (.cons (.bi .len (.cons (.v 2) .nil)) .nil)))) (.nop)
def F__law_mixed : FnD := ⟨2, 5, .seq (.par true true 2 3 (.bi .list (.cons (.v 1) .nil)) (.lst .nil)) (.seq (.for (.n 4) (.rng (.cons (.bi .len (.cons (.v 1) .nil)) .nil)) L__law_mixed_0) (.seq (.ret (.v 3)) (.nop)))⟩
/-- _law_uw_is_whole(thing)  slots: 0 thing -/
def F__law_uw_is_whole : FnD := ⟨1, 1, .seq (.ret (.and (.bi (.isI .int) (.cons (.v 0) .nil)) (.not (.bi (.isI .bool) (.cons (.v 0) .nil))))) (.nop)⟩
/-- _law_uw_is_in(thing, low, top)  slots: 0 thing 1 low 2 top -/
def F__law_uw_is_in : FnD := ⟨3, 3, .seq (.ret (.and (.call 26 (.cons (.v 0) .nil)) (.cmp2 .LtE .LtE (.v 1) (.v 0) (.v 2)))) (.nop)⟩
/-- _law_uw_lot_fault(thing, many)  slots: 0 thing 1 many 2 last 3 at -/
def L__law_uw_lot_fault_0 : S := .seq (.iff (.not (.call 27 (.cons (.idx (.v 0) (.v 3)) (.cons (.bin .Add (.v 2) (.k (.int 1))) (.cons (.bin .Sub (.v 1) (.k (.int 1))) .nil))))) (.seq (.ret (.v 3)) (.nop)) (.nop)) (.seq (.set false 2 (.idx (.v 0) (.v 3))) (.nop))
def F__law_uw_lot_fault : FnD := ⟨2, 4, .seq (.iff (.not (.bi (.isI .tuple) (.cons (.v 0) .nil))) (.seq (.ret (.neg (.k (.int 1)))) (.nop)) (.nop)) (.seq (.set false 2 (.neg (.k (.int 1)))) (.seq (.for (.n 3) (.rng (.cons (.bi .len (.cons (.v 0) .nil)) .nil)) L__law_uw_lot_fault_0) (.seq (.ret (.k .none)) (.nop))))⟩
/-- _law_uw_is_place(thing)  slots: 0 thing -/
def F__law_uw_is_place : FnD := ⟨1, 1, .seq (.iff (.or (.not (.bi (.isI .tuple) (.cons (.v 0) .nil))) (.or (.cmp .NotEq (.bi .len (.cons (.v 0) .nil)) (.k (.int 2))) (.not (.call 27 (.cons (.idx (.v 0) (.k (.int 0))) (.cons (.k (.int 0)) (.cons (.bin .Pow (.k (.int 10)) (.k (.int 6))) .nil))))))) (.seq (.ret (.k (.bool false))) (.nop)) (.nop)) (.seq (.ret (.and (.call 26 (.cons (.idx (.v 0) (.k (.int 1))) .nil)) (.or (.cmp .Eq (.idx (.v 0) (.k (.int 1))) (.neg (.k (.int 1)))) (.cmp2 .LtE .LtE (.idx (.v 0) (.k (.int 0))) (.idx (.v 0) (.k (.int 1))) (.bin .Pow (.k (.int 10)) (.k (.int 7))))))) (.nop))⟩
/-- _law_uw_is_region(thing, many)  slots: 0 thing 1 many -/
def F__law_uw_is_region : FnD := ⟨2, 2, .seq (.iff (.or (.not (.bi (.isI .tuple) (.cons (.v 0) .nil))) (.or (.cmp .NotEq (.bi .len (.cons (.v 0) .nil)) (.k (.int 2))) (.cmp .IsNot (.call 28 (.cons (.idx (.v 0) (.k (.int 0))) (.cons (.v 1) .nil))) (.k .none)))) (.seq (.ret (.k (.bool false))) (.nop)) (.nop)) (.seq (.ret (.and (.cmp2 .LtE .Lt (.k (.int 2)) (.bi .len (.cons (.idx (.v 0) (.k (.int 0))) .nil)) (.v 1)) (.call 27 (.cons (.idx (.v 0) (.k (.int 1))) (.cons (.k (.int 0)) (.cons (.bin .Pow (.k (.int 10)) (.k (.int 7))) .nil)))))) (.nop))⟩
/-- _law_uw_is_nested(one, two)  slots: 0 one 1 two 2 common 3 x -/
def F__law_uw_is_nested : FnD := ⟨2, 4, .seq (.set false 2 (.lc (.n 3) [3] (.v 3) (.v 0) (.cmp .In (.v 3) (.v 1)))) (.seq (.ret (.or (.cmp .Eq (.v 2) (.lst .nil)) (.cmp .Eq (.bi .len (.cons (.v 2) .nil)) (.bi .min2 (.cons (.bi .len (.cons (.v 0) .nil)) (.cons (.bi .len (.cons (.v 1) .nil)) .nil)))))) (.nop))⟩
/-- _law_uw_land_fault(thing)  slots: 0 thing 1 places_now 2 regions_now 3 at 4 one 5 two 6 p -/
def L__law_uw_land_fault_0 : S := .seq (.set false 4 (.idx (.v 2) (.v 3))) (.seq (.iff (.or (.not (.call 30 (.cons (.v 4) (.cons (.bi .len (.cons (.v 1) .nil)) .nil)))) (.and (.cmp .Gt (.v 3) (.k (.int 0))) (.not (.cmp .Lt (.idx (.idx (.v 2) (.bin .Sub (.v 3) (.k (.int 1)))) (.k (.int 0))) (.idx (.v 4) (.k (.int 0))))))) (.seq (.ret (.tup (.cons (.k (.str "BadRegion")) (.cons (.v 3) .nil)))) (.nop)) (.nop)) (.seq (.iff (.cmp .NotEq (.lc (.n 5) [5] (.v 5) (.slc (.v 2) (.k .none) (.v 3)) (.not (.call 31 (.cons (.idx (.v 4) (.k (.int 0))) (.cons (.idx (.v 5) (.k (.int 0))) .nil))))) (.lst .nil)) (.seq (.ret (.tup (.cons (.k (.str "BadRegion")) (.cons (.v 3) .nil)))) (.nop)) (.nop)) (.seq (.iff (.cmp .NotEq (.lc (.n 6) [6] (.v 6) (.idx (.v 4) (.k (.int 0))) (.cmp .NotEq (.idx (.idx (.v 1) (.v 6)) (.k (.int 1))) (.neg (.k (.int 1))))) (.lst .nil)) (.seq (.ret (.tup (.cons (.k (.str "BadRegion")) (.cons (.v 3) .nil)))) (.nop)) (.nop)) (.nop))))
def L__law_uw_land_fault_1 : S := .seq (.iff (.not (.call 29 (.cons (.idx (.v 1) (.v 3)) .nil))) (.seq (.ret (.tup (.cons (.k (.str "BadLand")) (.cons (.v 3) .nil)))) (.nop)) (.nop)) (.nop)
def F__law_uw_land_fault : FnD := ⟨1, 7, .seq (.iff (.or (.not (.bi (.isI .tuple) (.cons (.v 0) .nil))) (.or (.cmp .NotEq (.bi .len (.cons (.v 0) .nil)) (.k (.int 2))) (.cmp .NotEq (.lc (.n 4) [4] (.v 4) (.v 0) (.not (.bi (.isI .tuple) (.cons (.v 4) .nil)))) (.lst .nil)))) (.seq (.ret (.tup (.cons (.k (.str "BadLand")) (.cons (.neg (.k (.int 1))) .nil)))) (.nop)) (.nop)) (.seq (.unp (.tp (.cons (.n 1) (.cons (.n 2) .nil))) (.v 0)) (.seq (.iff (.cmp .Gt (.bi .len (.cons (.v 1) .nil)) (.k (.int 40))) (.seq (.ret (.tup (.cons (.k (.str "TooMany")) (.cons (.bi .len (.cons (.v 1) .nil)) .nil)))) (.nop)) (.nop)) (.seq (.for (.n 3) (.rng (.cons (.bi .len (.cons (.v 1) .nil)) .nil)) L__law_uw_land_fault_1) (.seq (.for (.n 3) (.rng (.cons (.bi .len (.cons (.v 2) .nil)) .nil)) L__law_uw_land_fault_0) (.seq (.ret (.k .none)) (.nop))))))⟩
/-- _law_uw_rows_fault(thing, many, top, word)  slots: 0 thing 1 many 2 top 3 word 4 at -/
def L__law_uw_rows_fault_0 : S := .seq (.iff (.not (.call 27 (.cons (.idx (.v 0) (.v 4)) (.cons (.k (.int 0)) (.cons (.v 2) .nil))))) (.seq (.ret (.tup (.cons (.v 3) (.cons (.v 4) .nil)))) (.nop)) (.nop)) (.nop)
def F__law_uw_rows_fault : FnD := ⟨4, 5, .seq (.iff (.or (.not (.bi (.isI .tuple) (.cons (.v 0) .nil))) (.cmp .NotEq (.bi .len (.cons (.v 0) .nil)) (.v 1))) (.seq (.ret (.tup (.cons (.v 3) (.cons (.neg (.k (.int 1))) .nil)))) (.nop)) (.nop)) (.seq (.for (.n 4) (.rng (.cons (.v 1) .nil)) L__law_uw_rows_fault_0) (.seq (.ret (.k .none)) (.nop)))⟩
/-- _law_uw_vans_fault(land, thing)  slots: 0 land 1 thing -/
def F__law_uw_vans_fault : FnD := ⟨2, 2, .seq (.ret (.call 33 (.cons (.v 1) (.cons (.bi .len (.cons (.idx (.v 0) (.k (.int 0))) .nil)) (.cons (.bin .Pow (.k (.int 10)) (.k (.int 7))) (.cons (.k (.str "BadVans")) .nil)))))) (.nop)⟩
/-- _law_uw_limits(land)  slots: 0 land 1 made 2 p 3 j -/
def F__law_uw_limits : FnD := ⟨1, 4, .seq (.set false 1 (.bin .Add (.lc (.n 2) [2] (.tup (.cons (.k (.str "floor")) (.cons (.v 2) .nil))) (.rng (.cons (.bi .len (.cons (.idx (.v 0) (.k (.int 0))) .nil)) .nil)) (.k (.bool true))) (.lc (.n 3) [3] (.tup (.cons (.k (.str "region")) (.cons (.v 3) .nil))) (.rng (.cons (.bi .len (.cons (.idx (.v 0) (.k (.int 1))) .nil)) .nil)) (.k (.bool true))))) (.seq (.ret (.bin .Add (.v 1) (.lc (.n 2) [2] (.tup (.cons (.k (.str "room")) (.cons (.v 2) .nil))) (.rng (.cons (.bi .len (.cons (.idx (.v 0) (.k (.int 0))) .nil)) .nil)) (.cmp .NotEq (.idx (.idx (.idx (.v 0) (.k (.int 0))) (.v 2)) (.k (.int 1))) (.neg (.k (.int 1))))))) (.nop))⟩
/-- _law_uw_lot(land, limit)  slots: 0 land 1 limit 2 p -/
def F__law_uw_lot : FnD := ⟨2, 3, .seq (.iff (.cmp .Eq (.idx (.v 1) (.k (.int 0))) (.k (.str "region"))) (.seq (.ret (.idx (.idx (.idx (.v 0) (.k (.int 1))) (.idx (.v 1) (.k (.int 1)))) (.k (.int 0)))) (.nop)) (.nop)) (.seq (.iff (.cmp .Eq (.idx (.v 1) (.k (.int 0))) (.k (.str "floor"))) (.seq (.ret (.tup (.cons (.idx (.v 1) (.k (.int 1))) .nil))) (.nop)) (.nop)) (.seq (.ret (.bi .tuple (.cons (.lc (.n 2) [2] (.v 2) (.rng (.cons (.bi .len (.cons (.idx (.v 0) (.k (.int 0))) .nil)) .nil)) (.cmp .NotEq (.v 2) (.idx (.v 1) (.k (.int 1))))) .nil))) (.nop)))⟩
/-- _law_uw_spare(land, vans_now, limit)  slots: 0 land 1 vans_now 2 limit 3 least 4 p -/
def F__law_uw_spare : FnD := ⟨3, 5, .seq (.iff (.cmp .Eq (.idx (.v 2) (.k (.int 0))) (.k (.str "room"))) (.seq (.ret (.bin .Sub (.idx (.idx (.idx (.v 0) (.k (.int 0))) (.idx (.v 2) (.k (.int 1)))) (.k (.int 1))) (.idx (.v 1) (.idx (.v 2) (.k (.int 1)))))) (.nop)) (.nop)) (.seq (.set false 3 (.ite (.cmp .Eq (.idx (.v 2) (.k (.int 0))) (.k (.str "floor"))) (.idx (.idx (.idx (.v 0) (.k (.int 0))) (.idx (.v 2) (.k (.int 1)))) (.k (.int 0))) (.idx (.idx (.idx (.v 0) (.k (.int 1))) (.idx (.v 2) (.k (.int 1)))) (.k (.int 1))))) (.seq (.ret (.bin .Sub (.bi .sum (.cons (.lc (.n 4) [4] (.idx (.v 1) (.v 4)) (.call 36 (.cons (.v 0) (.cons (.v 2) .nil))) (.k (.bool true))) .nil)) (.v 3))) (.nop)))⟩
/-- _law_uw_broken(land, vans_now)  slots: 0 land 1 vans_now 2 found 3 limit -/
def F__law_uw_broken : FnD := ⟨2, 4, .seq (.set false 2 (.lc (.n 3) [3] (.v 3) (.call 35 (.cons (.v 0) .nil)) (.cmp .Lt (.call 37 (.cons (.v 0) (.cons (.v 1) (.cons (.v 3) .nil)))) (.k (.int 0))))) (.seq (.ret (.ite (.cmp .NotEq (.v 2) (.lst .nil)) (.idx (.v 2) (.k (.int 0))) (.k .none))) (.nop))⟩
/-- _law_uw_moved(vans_now, u, v)  slots: 0 vans_now 1 u 2 v 3 made -/
def F__law_uw_moved : FnD := ⟨3, 4, .seq (.set true 3 (.bi .list (.cons (.v 0) .nil))) (.seq (.put 3 (.v 1) (.bin .Sub (.idx (.v 3) (.v 1)) (.k (.int 1)))) (.seq (.put 3 (.v 2) (.bin .Add (.idx (.v 3) (.v 2)) (.k (.int 1)))) (.seq (.ret (.bi .tuple (.cons (.v 3) .nil))) (.nop))))⟩
/-- _law_uw_nest(jar, many, some)  slots: 0 jar 1 many 2 some 3 groups 4 made 5 go 6 much 7 one 8 group 9 p -/
def L__law_uw_nest_0 : S := .seq (.ext 7 (.bi .list (.cons (.v 8) .nil))) (.nop)
def L__law_uw_nest_1 : S := .seq (.set false 6 (.bin .Add (.k (.int 2)) (.call 23 (.cons (.v 0) (.cons (.k (.int 2)) .nil))))) (.seq (.iff (.cmp .GtE (.bi .len (.cons (.v 3) .nil)) (.v 6)) (.seq (.set false 3 (.call 25 (.cons (.v 0) (.cons (.v 3) .nil)))) (.seq (.set true 7 (.lst .nil)) (.seq (.for (.n 8) (.slc (.v 3) (.k .none) (.v 6)) L__law_uw_nest_0) (.seq (.iff (.cmp .Lt (.bi .len (.cons (.v 7) .nil)) (.v 1)) (.seq (.app 4 (.bi .tuple (.cons (.bi .sorted (.cons (.v 7) .nil)) .nil))) (.seq (.set false 3 (.bin .Add (.slc (.v 3) (.v 6) (.k .none)) (.lst (.cons (.bi .tuple (.cons (.bi .sorted (.cons (.v 7) .nil)) .nil)) .nil)))) (.nop))) (.nop)) (.nop))))) (.nop)) (.nop))
def F__law_uw_nest : FnD := ⟨3, 10, .seq (.par false true 3 4 (.lc (.n 9) [9] (.tup (.cons (.v 9) .nil)) (.call 25 (.cons (.v 0) (.cons (.v 2) .nil))) (.k (.bool true))) (.lst .nil)) (.seq (.for (.n 5) (.rng (.cons (.call 24 (.cons (.v 0) (.cons (.lst (.cons (.k (.int 0)) (.cons (.k (.int 1)) (.cons (.k (.int 1)) (.cons (.k (.int 2)) (.cons (.k (.int 2)) (.cons (.k (.int 3)) (.cons (.k (.int 5)) (.cons (.v 1) .nil))))))))) .nil))) .nil)) L__law_uw_nest_1) (.seq (.ret (.bi .sorted (.cons (.v 4) .nil))) (.nop)))⟩
/-- _law_uw_floor(jar)  slots: 0 jar -/
def F__law_uw_floor : FnD := ⟨1, 1, .seq (.ret (.call 24 (.cons (.v 0) (.cons (.lst (.cons (.k (.int 0)) (.cons (.k (.int 0)) (.cons (.k (.int 0)) (.cons (.k (.int 0)) (.cons (.k (.int 1)) (.cons (.k (.int 1)) (.cons (.k (.int 2)) (.cons (.k (.int 3)) .nil))))))))) .nil)))) (.nop)⟩
/-- _law_uw_many(jar, most)  slots: 0 jar 1 most -/
def F__law_uw_many : FnD := ⟨2, 2, .seq (.iff (.and (.cmp .Gt (.v 1) (.k (.int 20))) (.cmp .Eq (.call 23 (.cons (.v 0) (.cons (.k (.int 30)) .nil))) (.k (.int 0)))) (.seq (.ret (.k (.int 40))) (.nop)) (.nop)) (.seq (.ret (.bi .min2 (.cons (.v 1) (.cons (.call 24 (.cons (.v 0) (.cons (.lst (.cons (.k (.int 0)) (.cons (.k (.int 1)) (.cons (.k (.int 2)) (.cons (.k (.int 2)) (.cons (.k (.int 3)) (.cons (.k (.int 3)) (.cons (.k (.int 4)) (.cons (.k (.int 4)) (.cons (.k (.int 5)) (.cons (.k (.int 6)) (.cons (.k (.int 7)) .nil)))))))))))) .nil))) .nil)))) (.nop))⟩
/-- _law_uw_land(jar, most)  slots: 0 jar 1 most 2 many 3 lots_now 4 inner 5 made 6 odds 7 great 8 p 9 regions_now 10 floor 11 room 12 one -/
def L__law_uw_land_0 : S := .seq (.set false 10 (.call 24 (.cons (.v 0) (.cons (.lst (.cons (.call 41 (.cons (.v 0) .nil)) (.cons (.call 41 (.cons (.v 0) .nil)) (.cons (.v 7) .nil)))) .nil)))) (.seq (.set false 11 (.call 24 (.cons (.v 0) (.cons (.lst (.cons (.v 10) (.cons (.bin .Add (.v 10) (.k (.int 1))) (.cons (.bin .Add (.v 10) (.k (.int 3))) (.cons (.bin .Pow (.k (.int 10)) (.k (.int 7))) .nil))))) .nil)))) (.seq (.app 5 (.tup (.cons (.v 10) (.cons (.ite (.and (.cmp .NotIn (.v 8) (.v 4)) (.cmp .Eq (.call 23 (.cons (.v 0) (.cons (.v 6) .nil))) (.k (.int 0)))) (.v 11) (.neg (.k (.int 1)))) .nil)))) (.nop)))
def F__law_uw_land : FnD := ⟨2, 13, .seq (.set false 2 (.call 42 (.cons (.v 0) (.cons (.v 1) .nil)))) (.seq (.set false 3 (.call 40 (.cons (.v 0) (.cons (.v 2) (.cons (.bi .listR (.cons (.rng (.cons (.v 2) .nil)) .nil)) .nil))))) (.seq (.set false 4 (.lc (.n 8) [8] (.v 8) (.rng (.cons (.v 2) .nil)) (.cmp .NotEq (.lc (.n 12) [12] (.v 12) (.v 3) (.cmp .In (.v 8) (.v 12))) (.lst .nil)))) (.seq (.par true false 5 6 (.lst .nil) (.call 24 (.cons (.v 0) (.cons (.lst (.cons (.k (.int 2)) (.cons (.k (.int 3)) (.cons (.k (.int 99)) .nil)))) .nil)))) (.seq (.set false 7 (.call 24 (.cons (.v 0) (.cons (.lst (.cons (.k (.int 0)) (.cons (.k (.int 0)) (.cons (.k (.int 0)) (.cons (.bin .Pow (.k (.int 10)) (.k (.int 6))) .nil))))) .nil)))) (.seq (.for (.n 8) (.rng (.cons (.v 2) .nil)) L__law_uw_land_0) (.seq (.set false 9 (.lc (.n 12) [12] (.tup (.cons (.v 12) (.cons (.call 24 (.cons (.v 0) (.cons (.lst (.cons (.k (.int 0)) (.cons (.k (.int 1)) (.cons (.k (.int 2)) (.cons (.k (.int 4)) (.cons (.bi .len (.cons (.v 12) .nil)) (.cons (.bin .Pow (.k (.int 10)) (.k (.int 7))) .nil))))))) .nil))) .nil))) (.v 3) (.k (.bool true)))) (.seq (.ret (.tup (.cons (.bi .tuple (.cons (.v 5) .nil)) (.cons (.bi .tuple (.cons (.v 9) .nil)) .nil)))) (.nop))))))))⟩
/-- _law_uw_vans(jar, land)  slots: 0 jar 1 land 2 made 3 floor 4 room 5 top -/
def L__law_uw_vans_0 : S := .seq (.set false 5 (.ite (.cmp .Eq (.v 4) (.neg (.k (.int 1)))) (.bin .Pow (.k (.int 10)) (.k (.int 7))) (.v 4))) (.seq (.app 2 (.bi .min2 (.cons (.bin .Pow (.k (.int 10)) (.k (.int 7))) (.cons (.call 24 (.cons (.v 0) (.cons (.lst (.cons (.v 3) (.cons (.v 3) (.cons (.bin .Add (.v 3) (.k (.int 1))) (.cons (.bin .Add (.v 3) (.k (.int 2))) (.cons (.v 5) (.cons (.call 23 (.cons (.v 0) (.cons (.k (.int 5)) .nil))) (.cons (.k (.int 0)) .nil)))))))) .nil))) .nil)))) (.nop))
def F__law_uw_vans : FnD := ⟨2, 6, .seq (.set true 2 (.lst .nil)) (.seq (.for (.tp (.cons (.n 3) (.cons (.n 4) .nil))) (.idx (.v 1) (.k (.int 0))) L__law_uw_vans_0) (.seq (.ret (.bi .tuple (.cons (.v 2) .nil))) (.nop)))⟩
/-- _law_uw_odd_land(jar, land)  slots: 0 jar 1 land 2 places_now 3 regions_now 4 many 5 found 6 bad 7 one 8 some 9 odd_now 10 thing 11 at -/
def L__law_uw_odd_land_0 : S := .seq (.set false 11 (.call 23 (.cons (.v 0) (.cons (.bin .Add (.bi .len (.cons (.v 3) .nil)) (.k (.int 1))) .nil)))) (.seq (.app 5 (.tup (.cons (.v 2) (.cons (.bin .Add (.bin .Add (.slc (.v 3) (.k .none) (.v 11)) (.tup (.cons (.v 7) .nil))) (.slc (.v 3) (.v 11) (.k .none))) .nil)))) (.nop))
def L__law_uw_odd_land_1 : S := .seq (.set false 11 (.call 23 (.cons (.v 0) (.cons (.bin .Add (.v 4) (.k (.int 1))) .nil)))) (.seq (.app 5 (.tup (.cons (.bin .Add (.bin .Add (.slc (.v 2) (.k .none) (.v 11)) (.tup (.cons (.v 7) .nil))) (.bin .Mult (.tup (.cons (.k .none) .nil)) (.call 23 (.cons (.v 0) (.cons (.k (.int 3)) .nil))))) (.cons (.v 3) .nil)))) (.nop))
def F__law_uw_odd_land : FnD := ⟨2, 12, .seq (.unp (.tp (.cons (.n 2) (.cons (.n 3) .nil))) (.v 1)) (.seq (.set false 4 (.bi .len (.cons (.v 2) .nil))) (.seq (.set true 5 (.lst (.cons (.k .none) (.cons (.lst .nil) (.cons (.tup (.cons (.v 2) .nil)) (.cons (.bin .Add (.v 1) (.tup (.cons (.tup .nil) .nil))) (.cons (.bi .list (.cons (.v 1) .nil)) (.cons (.tup (.cons (.bi .list (.cons (.v 2) .nil)) (.cons (.v 3) .nil))) (.cons (.tup (.cons (.v 2) (.cons (.k .none) .nil))) .nil))))))))) (.seq (.ext 5 (.lst (.cons (.k (.int 0)) (.cons (.tup (.cons (.v 2) (.cons (.bi .list (.cons (.v 3) .nil)) .nil))) (.cons (.tup (.cons (.bin .Mult (.tup (.cons (.tup (.cons (.k (.int 0)) (.cons (.neg (.k (.int 1))) .nil))) .nil)) (.k (.int 41))) (.cons (.tup .nil) .nil))) (.cons (.tup (.cons (.bin .Mult (.tup (.cons (.k .none) .nil)) (.k (.int 41))) (.cons (.k .none) .nil))) (.cons (.k (.str "land")) .nil))))))) (.seq (.app 5 (.tup (.cons (.k .none) (.cons (.k .none) .nil)))) (.seq (.set false 6 (.lst (.cons (.k .none) (.cons (.tup (.cons (.k (.int 0)) .nil)) (.cons (.lst (.cons (.k (.int 0)) (.cons (.neg (.k (.int 1))) .nil))) (.cons (.tup (.cons (.k (.int 0)) (.cons (.neg (.k (.int 2))) .nil))) (.cons (.tup (.cons (.neg (.k (.int 1))) (.cons (.neg (.k (.int 1))) .nil))) (.cons (.tup (.cons (.bin .Add (.bin .Pow (.k (.int 10)) (.k (.int 6))) (.k (.int 1))) (.cons (.neg (.k (.int 1))) .nil))) (.cons (.tup (.cons (.k (.int 2)) (.cons (.k (.int 1)) .nil))) (.cons (.tup (.cons (.k (.int 0)) (.cons (.bin .Add (.bin .Pow (.k (.int 10)) (.k (.int 7))) (.k (.int 1))) .nil))) (.cons (.tup (.cons (.k (.bool true)) (.cons (.neg (.k (.int 1))) .nil))) (.cons (.tup (.cons (.k (.int 0)) (.cons (.k (.bool true)) .nil))) .nil)))))))))))) (.seq (.for (.n 7) (.bin .Add (.v 6) (.lst (.cons (.tup (.cons (.k (.int 0)) (.cons (.k .none) .nil))) (.cons (.tup (.cons (.k (.int 0)) (.cons (.neg (.k (.int 1))) (.cons (.k (.int 0)) .nil)))) (.cons (.tup (.cons (.k (.str "0")) (.cons (.neg (.k (.int 1))) .nil))) .nil))))) L__law_uw_odd_land_1) (.seq (.set false 8 (.bi .tupleR (.cons (.rng (.cons (.v 4) .nil)) .nil))) (.seq (.set true 9 (.lst (.cons (.k .none) (.cons (.tup (.cons (.v 8) (.cons (.k (.int 0)) .nil))) (.cons (.tup (.cons (.tup (.cons (.k (.int 0)) .nil)) (.cons (.k (.int 0)) .nil))) (.cons (.tup (.cons (.tup .nil) (.cons (.k (.int 0)) .nil))) (.cons (.tup (.cons (.tup (.cons (.k (.int 0)) (.cons (.v 4) .nil))) (.cons (.k (.int 0)) .nil))) (.cons (.tup (.cons (.tup (.cons (.k (.int 1)) (.cons (.k (.int 0)) .nil))) (.cons (.k (.int 0)) .nil))) (.cons (.tup (.cons (.lst (.cons (.k (.int 0)) (.cons (.k (.int 1)) .nil))) (.cons (.k (.int 0)) .nil))) (.cons (.tup (.cons (.slc (.v 8) (.k .none) (.k (.int 2))) (.cons (.neg (.k (.int 1))) .nil))) .nil)))))))))) (.seq (.ext 9 (.lst (.cons (.tup (.cons (.tup (.cons (.k (.int 0)) (.cons (.k (.int 0)) .nil))) (.cons (.k (.int 0)) .nil))) (.cons (.tup (.cons (.slc (.v 8) (.k .none) (.k (.int 2))) (.cons (.bin .Add (.bin .Pow (.k (.int 10)) (.k (.int 7))) (.k (.int 1))) .nil))) (.cons (.tup (.cons (.slc (.v 8) (.k .none) (.k (.int 2))) (.cons (.k (.bool true)) .nil))) (.cons (.tup (.cons (.slc (.v 8) (.k .none) (.k (.int 2))) .nil)) (.cons (.lst (.cons (.slc (.v 8) (.k .none) (.k (.int 2))) (.cons (.k (.int 0)) .nil))) .nil))))))) (.seq (.ext 9 (.lst (.cons (.tup (.cons (.slc (.v 8) (.k .none) (.k (.int 2))) (.cons (.k .none) .nil))) (.cons (.tup (.cons (.slc (.v 8) (.k (.int 1)) (.k (.int 3))) (.cons (.k (.int 0)) .nil))) .nil)))) (.seq (.for (.n 7) (.bin .Add (.v 9) (.bi .list (.cons (.slc (.v 3) (.k .none) (.k (.int 1))) .nil))) L__law_uw_odd_land_0) (.seq (.set true 5 (.lc (.n 7) [7] (.v 7) (.v 5) (.cmp .IsNot (.call 32 (.cons (.v 7) .nil)) (.k .none)))) (.seq (.frz 5) (.seq (.set false 10 (.call 24 (.cons (.v 0) (.cons (.v 5) .nil)))) (.seq (.ret (.tup (.cons (.v 10) (.cons (.call 32 (.cons (.v 10) .nil)) .nil)))) (.nop))))))))))))))))⟩
/-- _law_uw_odd_vans(jar, land)  slots: 0 jar 1 land 2 many 3 found 4 odd 5 thing 6 at -/
def L__law_uw_odd_vans_0 : S := .seq (.set false 6 (.call 23 (.cons (.v 0) (.cons (.bi .max2 (.cons (.k (.int 1)) (.cons (.v 2) .nil))) .nil)))) (.seq (.ext 3 (.ite (.cmp .Gt (.v 2) (.k (.int 0))) (.lst (.cons (.bin .Add (.bin .Add (.bin .Mult (.tup (.cons (.k (.int 0)) .nil)) (.v 6)) (.tup (.cons (.v 4) .nil))) (.bin .Mult (.tup (.cons (.k .none) .nil)) (.bin .Sub (.bin .Sub (.v 2) (.k (.int 1))) (.v 6)))) .nil)) (.lst .nil))) (.nop))
def F__law_uw_odd_vans : FnD := ⟨2, 7, .seq (.set false 2 (.bi .len (.cons (.idx (.v 1) (.k (.int 0))) .nil))) (.seq (.set true 3 (.bin .Add (.lst (.cons (.k .none) (.cons (.bin .Mult (.lst (.cons (.k (.int 0)) .nil)) (.v 2)) (.cons (.bin .Mult (.tup (.cons (.k (.int 0)) .nil)) (.bin .Add (.v 2) (.k (.int 1)))) (.cons (.k (.int 0)) (.cons (.k (.str "vans")) .nil)))))) (.ite (.cmp .Gt (.v 2) (.k (.int 0))) (.lst (.cons (.bin .Mult (.tup (.cons (.k (.int 0)) .nil)) (.bin .Sub (.v 2) (.k (.int 1)))) .nil)) (.lst .nil)))) (.seq (.for (.n 4) (.lst (.cons (.neg (.k (.int 1))) (.cons (.bin .Add (.bin .Pow (.k (.int 10)) (.k (.int 7))) (.k (.int 1))) (.cons (.k (.bool true)) (.cons (.k .none) (.cons (.k (.str "0")) (.cons (.tup (.cons (.k (.int 0)) .nil)) (.cons (.bin .Pow (.k (.int 10)) (.k (.int 20))) .nil)))))))) L__law_uw_odd_vans_0) (.seq (.frz 3) (.seq (.set false 5 (.call 24 (.cons (.v 0) (.cons (.v 3) .nil)))) (.seq (.ret (.tup (.cons (.v 5) (.cons (.call 34 (.cons (.v 1) (.cons (.v 5) .nil))) .nil)))) (.nop))))))⟩
/-- _law_uw_odd_place(jar, land)  slots: 0 jar 1 land 2 thing -/
def F__law_uw_odd_place : FnD := ⟨2, 3, .seq (.set false 2 (.call 24 (.cons (.v 0) (.cons (.lst (.cons (.bi .len (.cons (.idx (.v 1) (.k (.int 0))) .nil)) (.cons (.neg (.k (.int 1))) (.cons (.k (.bool true)) (.cons (.k .none) (.cons (.k (.str "0")) (.cons (.tup (.cons (.k (.int 0)) .nil)) (.cons (.bin .Pow (.k (.int 10)) (.k (.int 20))) .nil)))))))) .nil)))) (.seq (.ret (.tup (.cons (.v 2) (.cons (.tup (.cons (.k (.str "BadPlace")) (.cons (.v 2) .nil))) .nil)))) (.nop))⟩
/-- _law_uw_arguments(jar, right, odd_now)  slots: 0 jar 1 right 2 odd_now 3 at 4 row 5 k -/
def F__law_uw_arguments : FnD := ⟨3, 6, .seq (.set false 3 (.call 23 (.cons (.v 0) (.cons (.bi .len (.cons (.v 1) .nil)) .nil)))) (.seq (.set true 4 (.bin .Add (.bi .list (.cons (.slc (.v 1) (.k .none) (.v 3)) .nil)) (.lst (.cons (.idx (.idx (.v 2) (.v 3)) (.k (.int 0))) .nil)))) (.seq (.ext 4 (.lc (.n 5) [5] (.call 24 (.cons (.v 0) (.cons (.lst (.cons (.idx (.v 1) (.v 5)) (.cons (.idx (.idx (.v 2) (.v 5)) (.k (.int 0))) .nil))) .nil))) (.rng (.cons (.bin .Add (.v 3) (.k (.int 1))) (.cons (.bi .len (.cons (.v 1) .nil)) .nil))) (.k (.bool true)))) (.seq (.frz 4) (.seq (.ret (.tup (.cons (.v 4) (.cons (.idx (.idx (.v 2) (.v 3)) (.k (.int 1))) .nil)))) (.nop)))))⟩
/-- _law_uq_is_whole(thing)  slots: 0 thing -/
def F__law_uq_is_whole : FnD := ⟨1, 1, .seq (.ret (.and (.bi (.isI .int) (.cons (.v 0) .nil)) (.not (.bi (.isI .bool) (.cons (.v 0) .nil))))) (.nop)⟩
/-- _law_uq_same(heard_now, owed)  slots: 0 heard_now 1 owed 2 todo 3 one 4 due 5 is_so 6 at -/
def L__law_uq_same_0 : S := .seq (.popT (.tp (.cons (.n 3) (.cons (.n 4) .nil))) 2) (.seq (.iff (.cmp .Is (.v 4) (.k .none)) (.seq (.set false 5 (.cmp .Is (.v 3) (.k .none))) (.nop)) (.seq (.iff (.bi (.isI .bool) (.cons (.v 4) .nil)) (.seq (.set false 5 (.and (.bi (.isI .bool) (.cons (.v 3) .nil)) (.cmp .Eq (.v 3) (.v 4)))) (.nop)) (.seq (.iff (.bi (.isI .int) (.cons (.v 4) .nil)) (.seq (.set false 5 (.and (.call 49 (.cons (.v 3) .nil)) (.cmp .Eq (.v 3) (.v 4)))) (.nop)) (.seq (.iff (.bi (.isI .str) (.cons (.v 4) .nil)) (.seq (.set false 5 (.and (.bi (.isI .str) (.cons (.v 3) .nil)) (.cmp .Eq (.v 3) (.v 4)))) (.nop)) (.seq (.set false 5 (.ite (.bi (.isI .tuple) (.cons (.v 4) .nil)) (.bi (.isI .tuple) (.cons (.v 3) .nil)) (.bi (.isI .list) (.cons (.v 3) .nil)))) (.seq (.set false 5 (.and (.v 5) (.cmp .Eq (.bi .len (.cons (.v 3) .nil)) (.bi .len (.cons (.v 4) .nil))))) (.seq (.ext 2 (.ite (.v 5) (.lc (.n 6) [6] (.tup (.cons (.idx (.v 3) (.v 6)) (.cons (.idx (.v 4) (.v 6)) .nil))) (.rng (.cons (.bi .len (.cons (.v 4) .nil)) .nil)) (.k (.bool true))) (.lst .nil))) (.nop))))) (.nop))) (.nop))) (.nop))) (.seq (.iff (.not (.v 5)) (.seq (.ret (.k (.bool false))) (.nop)) (.nop)) (.nop)))
def F__law_uq_same : FnD := ⟨2, 7, .seq (.set true 2 (.lst (.cons (.tup (.cons (.v 0) (.cons (.v 1) .nil))) .nil))) (.seq (.while (.cmp .NotEq (.v 2) (.lst .nil)) L__law_uq_same_0) (.seq (.ret (.k (.bool true))) (.nop)))⟩
/-- _law_u5_moved_due(vans_now, u, v)  slots: 0 vans_now 1 u 2 v -/
def F__law_u5_moved_due : FnD := ⟨3, 3, .seq (.iff (.cmp .Lt (.idx (.v 0) (.v 1)) (.k (.int 1))) (.seq (.ret (.tup (.cons (.k (.str "NoVan")) (.cons (.v 1) .nil)))) (.nop)) (.nop)) (.seq (.ret (.tup (.cons (.k (.str "told")) (.cons (.ite (.cmp .Eq (.v 1) (.v 2)) (.v 0) (.call 39 (.cons (.v 0) (.cons (.v 1) (.cons (.v 2) .nil))))) .nil)))) (.nop))⟩
/-- _law_u5_right(jar, land)  slots: 0 jar 1 land 2 many 3 vans_now 4 told_now 5 owed 6 go 7 u 8 v -/
def L__law_u5_right_0 : S := .seq (.unp (.tp (.cons (.n 7) (.cons (.n 8) .nil))) (.tup (.cons (.call 23 (.cons (.v 0) (.cons (.v 2) .nil))) (.cons (.call 23 (.cons (.v 0) (.cons (.v 2) .nil))) .nil)))) (.seq (.app 4 (.heard 0 (heard0) (.call 13 (.cons (.v 1) (.cons (.v 3) (.cons (.v 7) (.cons (.v 8) .nil))))))) (.seq (.app 5 (.call 51 (.cons (.v 3) (.cons (.v 7) (.cons (.v 8) .nil))))) (.nop)))
def F__law_u5_right : FnD := ⟨2, 9, .seq (.unp (.tp (.cons (.n 2) (.cons (.n 3) .nil))) (.tup (.cons (.bi .len (.cons (.idx (.v 1) (.k (.int 0))) .nil)) (.cons (.call 44 (.cons (.v 0) (.cons (.v 1) .nil))) .nil)))) (.seq (.set true 4 (.lst (.cons (.heard 0 (heard0) (.call 21 (.cons (.v 1) (.cons (.v 3) .nil)))) .nil))) (.seq (.set true 5 (.lst (.cons (.tup (.cons (.k (.str "told")) (.cons (.call 38 (.cons (.v 1) (.cons (.v 3) .nil))) .nil))) .nil))) (.seq (.for (.n 6) (.rng (.cons (.ite (.cmp .Gt (.v 2) (.k (.int 0))) (.k (.int 5)) (.k (.int 0))) .nil)) L__law_u5_right_0) (.seq (.frz 4) (.seq (.frz 5) (.seq (.ret (.call 50 (.cons (.v 4) (.cons (.v 5) .nil)))) (.nop)))))))⟩
/-- _law_u5_refused_right(jar, land)  slots: 0 jar 1 land 2 vans_now 3 land_odd 4 vans_odd 5 few 6 due 7 told_now 8 owed 9 u_odd 10 v_odd -/
def F__law_u5_refused_right : FnD := ⟨2, 11, .seq (.unp (.tp (.cons (.n 2) (.cons (.n 3) (.cons (.n 4) .nil)))) (.tup (.cons (.call 44 (.cons (.v 0) (.cons (.v 1) .nil))) (.cons (.call 45 (.cons (.v 0) (.cons (.v 1) .nil))) (.cons (.call 46 (.cons (.v 0) (.cons (.v 1) .nil))) .nil))))) (.seq (.unp (.tp (.cons (.n 5) (.cons (.n 6) .nil))) (.call 48 (.cons (.v 0) (.cons (.lst (.cons (.v 1) (.cons (.v 2) .nil))) (.cons (.lst (.cons (.v 3) (.cons (.v 4) .nil))) .nil))))) (.seq (.par true true 7 8 (.lst (.cons (.heard 0 (heard0) (.call 21 (.cons (.idx (.v 5) (.k (.int 0))) (.cons (.idx (.v 5) (.k (.int 1))) .nil)))) .nil)) (.lst (.cons (.v 6) .nil))) (.seq (.unp (.tp (.cons (.n 9) (.cons (.n 10) .nil))) (.tup (.cons (.call 47 (.cons (.v 0) (.cons (.v 1) .nil))) (.cons (.call 47 (.cons (.v 0) (.cons (.v 1) .nil))) .nil)))) (.seq (.app 7 (.heard 0 (heard0) (.call 13 (.cons (.v 1) (.cons (.v 2) (.cons (.idx (.v 9) (.k (.int 0))) (.cons (.call 24 (.cons (.v 0) (.cons (.lst (.cons (.k (.int 0)) (.cons (.k .none) .nil))) .nil))) .nil))))))) (.seq (.app 8 (.idx (.v 9) (.k (.int 1)))) (.seq (.iff (.cmp .NotEq (.idx (.v 1) (.k (.int 0))) (.tup .nil)) (.seq (.app 7 (.heard 0 (heard0) (.call 13 (.cons (.v 1) (.cons (.bin .Mult (.tup (.cons (.k (.int 0)) .nil)) (.bi .len (.cons (.idx (.v 1) (.k (.int 0))) .nil))) (.cons (.k (.int 0)) (.cons (.idx (.v 10) (.k (.int 0))) .nil))))))) (.seq (.app 8 (.idx (.v 10) (.k (.int 1)))) (.nop))) (.nop)) (.seq (.app 7 (.heard 0 (heard0) (.call 13 (.cons (.idx (.v 5) (.k (.int 0))) (.cons (.idx (.v 5) (.k (.int 1))) (.cons (.idx (.v 9) (.k (.int 0))) (.cons (.k (.int 0)) .nil))))))) (.seq (.frz 7) (.seq (.ret (.call 50 (.cons (.v 7) (.cons (.bin .Add (.v 8) (.lst (.cons (.v 6) .nil))) .nil)))) (.nop))))))))))⟩
/-- law(script)  slots: 0 script 1 jar 2 go 3 depot 4 some 5 told_now 6 owed 7 land 8 one -/
def L_law_0 : S := .seq (.set false 7 (.call 43 (.cons (.v 1) (.cons (.k (.int 40)) .nil)))) (.seq (.iff (.or (.not (.call 52 (.cons (.v 1) (.cons (.v 7) .nil)))) (.not (.call 53 (.cons (.v 1) (.cons (.v 7) .nil))))) (.seq (.ret (.k (.bool false))) (.nop)) (.nop)) (.nop))
def F_law : FnD := ⟨1, 9, .seq (.set false 1 (.call 22 (.cons (.v 0) .nil))) (.seq (.for (.n 2) (.rng (.cons (.k (.int 16)) .nil)) L_law_0) (.seq (.set false 3 (.tup (.cons (.tup (.cons (.tup (.cons (.k (.int 1)) (.cons (.k (.int 4)) .nil))) (.cons (.tup (.cons (.k (.int 1)) (.cons (.neg (.k (.int 1))) .nil))) (.cons (.tup (.cons (.k (.int 0)) (.cons (.neg (.k (.int 1))) .nil))) .nil)))) (.cons (.tup (.cons (.tup (.cons (.tup (.cons (.k (.int 1)) (.cons (.k (.int 2)) .nil))) (.cons (.k (.int 3)) .nil))) .nil)) .nil)))) (.seq (.set false 4 (.lst (.cons (.tup (.cons (.k (.int 2)) (.cons (.k (.int 3)) (.cons (.k (.int 1)) .nil)))) (.cons (.tup (.cons (.k (.int 5)) (.cons (.k (.int 0)) (.cons (.k (.int 1)) .nil)))) (.cons (.tup (.cons (.k (.int 5)) (.cons (.k (.int 1)) (.cons (.k (.int 2)) .nil)))) (.cons (.tup (.cons (.k (.int 1)) (.cons (.k (.int 1)) (.cons (.k (.int 1)) .nil)))) (.cons (.tup (.cons (.k (.int 0)) (.cons (.k (.int 0)) (.cons (.k (.int 0)) .nil)))) (.cons (.tup (.cons (.k (.int 0)) (.cons (.k (.int 9)) (.cons (.k (.int 9)) .nil)))) .nil)))))))) (.seq (.set true 5 (.lst (.cons (.heard 0 (heard0) (.lc (.n 8) [8] (.call 21 (.cons (.v 3) (.cons (.v 8) .nil))) (.v 4) (.k (.bool true)))) .nil))) (.seq (.app 5 (.heard 0 (heard0) (.call 13 (.cons (.v 3) (.cons (.tup (.cons (.k (.int 1)) (.cons (.bin .Pow (.k (.int 10)) (.k (.int 7))) (.cons (.k (.int 0)) .nil)))) (.cons (.k (.int 0)) (.cons (.k (.int 1)) .nil))))))) (.seq (.app 5 (.heard 0 (heard0) (.call 13 (.cons (.v 3) (.cons (.tup (.cons (.k (.int 1)) (.cons (.k (.int 0)) (.cons (.k (.int 0)) .nil)))) (.cons (.k (.int 1)) (.cons (.k (.int 1)) .nil))))))) (.seq (.set false 6 (.lst (.cons (.tup (.cons (.k (.str "told")) (.cons (.lst (.cons (.k .none) (.cons (.tup (.cons (.k (.str "floor")) (.cons (.k (.int 1)) .nil))) (.cons (.tup (.cons (.k (.str "room")) (.cons (.k (.int 0)) .nil))) (.cons (.tup (.cons (.k (.str "region")) (.cons (.k (.int 0)) .nil))) (.cons (.tup (.cons (.k (.str "floor")) (.cons (.k (.int 0)) .nil))) (.cons (.tup (.cons (.k (.str "floor")) (.cons (.k (.int 0)) .nil))) .nil))))))) .nil))) .nil))) (.seq (.frz 5) (.seq (.ret (.call 50 (.cons (.v 5) (.cons (.bin .Add (.v 6) (.lst (.cons (.tup (.cons (.k (.str "told")) (.cons (.tup (.cons (.k (.int 0)) (.cons (.bin .Add (.bin .Pow (.k (.int 10)) (.k (.int 7))) (.k (.int 1))) (.cons (.k (.int 0)) .nil)))) .nil))) (.cons (.tup (.cons (.k (.str "NoVan")) (.cons (.k (.int 1)) .nil))) .nil)))) .nil)))) (.nop))))))))))⟩
def G : List FnD := [F_whole, F_is_pair, F_is_place, F_is_places_lot, F_are_nested, F_is_region, F_land_fault, F_asked_land, F_asked_place, F_vans_fault, F_asked_vans, F_sum_in, F_one_moved, F_moved, F_limits_in, F_lot_in, F_spare_in, F_under_way, F_spares_now, F_first_below, F_asked_standing, F_broken, F__law_pool, F__law_take, F__law_one, F__law_mixed, F__law_uw_is_whole, F__law_uw_is_in, F__law_uw_lot_fault, F__law_uw_is_place, F__law_uw_is_region, F__law_uw_is_nested, F__law_uw_land_fault, F__law_uw_rows_fault, F__law_uw_vans_fault, F__law_uw_limits, F__law_uw_lot, F__law_uw_spare, F__law_uw_broken, F__law_uw_moved, F__law_uw_nest, F__law_uw_floor, F__law_uw_many, F__law_uw_land, F__law_uw_vans, F__law_uw_odd_land, F__law_uw_odd_vans, F__law_uw_odd_place, F__law_uw_arguments, F__law_uq_is_whole, F__law_uq_same, F__law_u5_moved_due, F__law_u5_right, F__law_u5_refused_right, F_law]
abbrev i_whole : Nat := 0
abbrev i_is_pair : Nat := 1
abbrev i_is_place : Nat := 2
abbrev i_is_places_lot : Nat := 3
abbrev i_are_nested : Nat := 4
abbrev i_is_region : Nat := 5
abbrev i_land_fault : Nat := 6
abbrev i_asked_land : Nat := 7
abbrev i_asked_place : Nat := 8
abbrev i_vans_fault : Nat := 9
abbrev i_asked_vans : Nat := 10
abbrev i_sum_in : Nat := 11
abbrev i_one_moved : Nat := 12
abbrev i_moved : Nat := 13
abbrev i_limits_in : Nat := 14
abbrev i_lot_in : Nat := 15
abbrev i_spare_in : Nat := 16
abbrev i_under_way : Nat := 17
abbrev i_spares_now : Nat := 18
abbrev i_first_below : Nat := 19
abbrev i_asked_standing : Nat := 20
abbrev i_broken : Nat := 21
abbrev i__law_pool : Nat := 22
abbrev i__law_take : Nat := 23
abbrev i__law_one : Nat := 24
abbrev i__law_mixed : Nat := 25
abbrev i__law_uw_is_whole : Nat := 26
abbrev i__law_uw_is_in : Nat := 27
abbrev i__law_uw_lot_fault : Nat := 28
abbrev i__law_uw_is_place : Nat := 29
abbrev i__law_uw_is_region : Nat := 30
abbrev i__law_uw_is_nested : Nat := 31
abbrev i__law_uw_land_fault : Nat := 32
abbrev i__law_uw_rows_fault : Nat := 33
abbrev i__law_uw_vans_fault : Nat := 34
abbrev i__law_uw_limits : Nat := 35
abbrev i__law_uw_lot : Nat := 36
abbrev i__law_uw_spare : Nat := 37
abbrev i__law_uw_broken : Nat := 38
abbrev i__law_uw_moved : Nat := 39
abbrev i__law_uw_nest : Nat := 40
abbrev i__law_uw_floor : Nat := 41
abbrev i__law_uw_many : Nat := 42
abbrev i__law_uw_land : Nat := 43
abbrev i__law_uw_vans : Nat := 44
abbrev i__law_uw_odd_land : Nat := 45
abbrev i__law_uw_odd_vans : Nat := 46
abbrev i__law_uw_odd_place : Nat := 47
abbrev i__law_uw_arguments : Nat := 48
abbrev i__law_uq_is_whole : Nat := 49
abbrev i__law_uq_same : Nat := 50
abbrev i__law_u5_moved_due : Nat := 51
abbrev i__law_u5_right : Nat := 52
abbrev i__law_u5_refused_right : Nat := 53
abbrev i_law : Nat := 54
end K05
end
section
set_option linter.all false
set_option maxRecDepth 100000
namespace K05
open PySem PySem.Spec PyProof.Rows L2 Pv
def top (i : Nat) : Stmt := PySem.Challenge.pw_neverunder_k05_broken_limits_and_moves.main.body.getD i (.Pass ⟨0, 0, 0, 0⟩)
def row (x : Str) (i : Nat) (ps N : List Str) (fd : FnD) : Pv.Row := ⟨x, ps, N, fd, defArgs (top i), defBody (top i), defScope (top i)⟩
def r_whole : Pv.Row := row "whole" 8 ["thing", "low", "high"] ["thing", "low", "high"] F_whole
def r_is_pair : Pv.Row := row "is_pair" 15 ["thing"] ["thing"] F_is_pair
def r_is_place : Pv.Row := row "is_place" 16 ["thing"] ["thing"] F_is_place
def r_is_places_lot : Pv.Row := row "is_places_lot" 17 ["count", "thing"] ["count", "thing", "least", "place"] F_is_places_lot
def r_are_nested : Pv.Row := row "are_nested" 18 ["one", "two"] ["one", "two", "common", "place"] F_are_nested
def r_is_region : Pv.Row := row "is_region" 19 ["places", "ahead", "thing"] ["places", "ahead", "thing", "lot", "other", "floor", "place"] F_is_region
def r_land_fault : Pv.Row := row "land_fault" 20 ["thing"] ["thing", "places", "regions", "at", "place", "ahead", "region", "one"] F_land_fault
def r_asked_land : Pv.Row := row "asked_land" 21 ["land"] ["land", "fault"] F_asked_land
def r_asked_place : Pv.Row := row "asked_place" 22 ["land", "v"] ["land", "v"] F_asked_place
def r_vans_fault : Pv.Row := row "vans_fault" 24 ["land", "thing"] ["land", "thing", "at", "number"] F_vans_fault
def r_asked_vans : Pv.Row := row "asked_vans" 25 ["land", "vans"] ["land", "vans", "fault"] F_asked_vans
def r_sum_in : Pv.Row := row "sum_in" 26 ["vans", "lot"] ["vans", "lot", "place"] F_sum_in
def r_one_moved : Pv.Row := row "one_moved" 27 ["vans", "u", "v"] ["vans", "u", "v", "later"] F_one_moved
def r_moved : Pv.Row := row "moved" 28 ["land", "vans", "u", "v"] ["land", "vans", "u", "v"] F_moved
def r_limits_in : Pv.Row := row "limits_in" 30 ["land"] ["land", "found", "at", "floor", "room"] F_limits_in
def r_lot_in : Pv.Row := row "lot_in" 31 ["land", "limit"] ["land", "limit", "sort", "at", "place"] F_lot_in
def r_spare_in : Pv.Row := row "spare_in" 33 ["land", "vans", "limit"] ["land", "vans", "limit", "sort", "at", "floor"] F_spare_in
def r_under_way : Pv.Row := row "under_way" 34 ["land", "limit", "away"] ["land", "limit", "away", "sort", "at", "lot", "u", "v"] F_under_way
def r_spares_now : Pv.Row := row "spares_now" 35 ["land", "limits", "vans", "away"] ["land", "limits", "vans", "away", "limit"] F_spares_now
def r_first_below : Pv.Row := row "first_below" 36 ["limits", "spare_list", "least"] ["limits", "spare_list", "least", "limit", "number"] F_first_below
def r_asked_standing : Pv.Row := row "asked_standing" 37 ["land", "vans"] ["land", "vans"] F_asked_standing
def r_broken : Pv.Row := row "broken" 38 ["land", "vans"] ["land", "vans", "limits"] F_broken
def r__law_pool : Pv.Row := row "_law_pool" 40 ["script"] ["script", "digits", "stirred", "at", "cell"] F__law_pool
def r__law_take : Pv.Row := row "_law_take" 41 ["jar", "many"] ["jar", "many", "made"] F__law_take
def r__law_one : Pv.Row := row "_law_one" 42 ["jar", "things"] ["jar", "things"] F__law_one
def r__law_mixed : Pv.Row := row "_law_mixed" 43 ["jar", "things"] ["jar", "things", "left_now", "made", "go"] F__law_mixed
def r__law_uw_is_whole : Pv.Row := row "_law_uw_is_whole" 44 ["thing"] ["thing"] F__law_uw_is_whole
def r__law_uw_is_in : Pv.Row := row "_law_uw_is_in" 45 ["thing", "low", "top"] ["thing", "low", "top"] F__law_uw_is_in
def r__law_uw_lot_fault : Pv.Row := row "_law_uw_lot_fault" 46 ["thing", "many"] ["thing", "many", "last", "at"] F__law_uw_lot_fault
def r__law_uw_is_place : Pv.Row := row "_law_uw_is_place" 47 ["thing"] ["thing"] F__law_uw_is_place
def r__law_uw_is_region : Pv.Row := row "_law_uw_is_region" 48 ["thing", "many"] ["thing", "many"] F__law_uw_is_region
def r__law_uw_is_nested : Pv.Row := row "_law_uw_is_nested" 49 ["one", "two"] ["one", "two", "common", "x"] F__law_uw_is_nested
def r__law_uw_land_fault : Pv.Row := row "_law_uw_land_fault" 50 ["thing"] ["thing", "places_now", "regions_now", "at", "one", "two", "p"] F__law_uw_land_fault
def r__law_uw_rows_fault : Pv.Row := row "_law_uw_rows_fault" 51 ["thing", "many", "top", "word"] ["thing", "many", "top", "word", "at"] F__law_uw_rows_fault
def r__law_uw_vans_fault : Pv.Row := row "_law_uw_vans_fault" 52 ["land", "thing"] ["land", "thing"] F__law_uw_vans_fault
def r__law_uw_limits : Pv.Row := row "_law_uw_limits" 53 ["land"] ["land", "made", "p", "j"] F__law_uw_limits
def r__law_uw_lot : Pv.Row := row "_law_uw_lot" 54 ["land", "limit"] ["land", "limit", "p"] F__law_uw_lot
def r__law_uw_spare : Pv.Row := row "_law_uw_spare" 55 ["land", "vans_now", "limit"] ["land", "vans_now", "limit", "least", "p"] F__law_uw_spare
def r__law_uw_broken : Pv.Row := row "_law_uw_broken" 56 ["land", "vans_now"] ["land", "vans_now", "found", "limit"] F__law_uw_broken
def r__law_uw_moved : Pv.Row := row "_law_uw_moved" 57 ["vans_now", "u", "v"] ["vans_now", "u", "v", "made"] F__law_uw_moved
def r__law_uw_nest : Pv.Row := row "_law_uw_nest" 58 ["jar", "many", "some"] ["jar", "many", "some", "groups", "made", "go", "much", "one", "group", "p"] F__law_uw_nest
def r__law_uw_floor : Pv.Row := row "_law_uw_floor" 59 ["jar"] ["jar"] F__law_uw_floor
def r__law_uw_many : Pv.Row := row "_law_uw_many" 60 ["jar", "most"] ["jar", "most"] F__law_uw_many
def r__law_uw_land : Pv.Row := row "_law_uw_land" 61 ["jar", "most"] ["jar", "most", "many", "lots_now", "inner", "made", "odds", "great", "p", "regions_now", "floor", "room", "one"] F__law_uw_land
def r__law_uw_vans : Pv.Row := row "_law_uw_vans" 62 ["jar", "land"] ["jar", "land", "made", "floor", "room", "top"] F__law_uw_vans
def r__law_uw_odd_land : Pv.Row := row "_law_uw_odd_land" 63 ["jar", "land"] ["jar", "land", "places_now", "regions_now", "many", "found", "bad", "one", "some", "odd_now", "thing", "at"] F__law_uw_odd_land
def r__law_uw_odd_vans : Pv.Row := row "_law_uw_odd_vans" 64 ["jar", "land"] ["jar", "land", "many", "found", "odd", "thing", "at"] F__law_uw_odd_vans
def r__law_uw_odd_place : Pv.Row := row "_law_uw_odd_place" 65 ["jar", "land"] ["jar", "land", "thing"] F__law_uw_odd_place
def r__law_uw_arguments : Pv.Row := row "_law_uw_arguments" 66 ["jar", "right", "odd_now"] ["jar", "right", "odd_now", "at", "row", "k"] F__law_uw_arguments
def r__law_uq_is_whole : Pv.Row := row "_law_uq_is_whole" 67 ["thing"] ["thing"] F__law_uq_is_whole
def r__law_uq_same : Pv.Row := row "_law_uq_same" 68 ["heard_now", "owed"] ["heard_now", "owed", "todo", "one", "due", "is_so", "at"] F__law_uq_same
def r__law_u5_moved_due : Pv.Row := row "_law_u5_moved_due" 70 ["vans_now", "u", "v"] ["vans_now", "u", "v"] F__law_u5_moved_due
def r__law_u5_right : Pv.Row := row "_law_u5_right" 71 ["jar", "land"] ["jar", "land", "many", "vans_now", "told_now", "owed", "go", "u", "v"] F__law_u5_right
def r__law_u5_refused_right : Pv.Row := row "_law_u5_refused_right" 72 ["jar", "land"] ["jar", "land", "vans_now", "land_odd", "vans_odd", "few", "due", "told_now", "owed", "u_odd", "v_odd"] F__law_u5_refused_right
def r_law : Pv.Row := row "law" 73 ["script"] ["script", "jar", "go", "depot", "some", "told_now", "owed", "land", "one"] F_law
def rows : List Pv.Row := ([r_whole, r_is_pair, r_is_place, r_is_places_lot, r_are_nested, r_is_region, r_land_fault, r_asked_land, r_asked_place, r_vans_fault, r_asked_vans, r_sum_in, r_one_moved, r_moved, r_limits_in, r_lot_in, r_spare_in, r_under_way, r_spares_now, r_first_below, r_asked_standing, r_broken, r__law_pool, r__law_take, r__law_one] : List Pv.Row) ++ ([r__law_mixed, r__law_uw_is_whole, r__law_uw_is_in, r__law_uw_lot_fault, r__law_uw_is_place, r__law_uw_is_region, r__law_uw_is_nested, r__law_uw_land_fault, r__law_uw_rows_fault, r__law_uw_vans_fault, r__law_uw_limits, r__law_uw_lot, r__law_uw_spare, r__law_uw_broken, r__law_uw_moved, r__law_uw_nest, r__law_uw_floor, r__law_uw_many, r__law_uw_land, r__law_uw_vans, r__law_uw_odd_land, r__law_uw_odd_vans, r__law_uw_odd_place, r__law_uw_arguments, r__law_uq_is_whole] : List Pv.Row) ++ ([r__law_uq_same, r__law_u5_moved_due, r__law_u5_right, r__law_u5_refused_right, r_law] : List Pv.Row)
def tb : Tab := ⟨([("MOST_PLACES", (.int 40)), ("MOST_FLOOR", (.int 1000000)), ("MOST_MANY", (.int 10000000)), ("PAIR", (.int 2)), ("LEAST_LOT", (.int 2))] : List (Str × D)), (["whole", "is_pair", "is_place", "is_places_lot", "are_nested", "is_region", "land_fault", "asked_land", "asked_place", "vans_fault", "asked_vans", "sum_in", "one_moved", "moved", "limits_in", "lot_in", "spare_in", "under_way", "spares_now", "first_below", "asked_standing", "broken", "_law_pool", "_law_take", "_law_one"] : List Str) ++ (["_law_mixed", "_law_uw_is_whole", "_law_uw_is_in", "_law_uw_lot_fault", "_law_uw_is_place", "_law_uw_is_region", "_law_uw_is_nested", "_law_uw_land_fault", "_law_uw_rows_fault", "_law_uw_vans_fault", "_law_uw_limits", "_law_uw_lot", "_law_uw_spare", "_law_uw_broken", "_law_uw_moved", "_law_uw_nest", "_law_uw_floor", "_law_uw_many", "_law_uw_land", "_law_uw_vans", "_law_uw_odd_land", "_law_uw_odd_vans", "_law_uw_odd_place", "_law_uw_arguments", "_law_uq_is_whole"] : List Str) ++ (["_law_uq_same", "_law_u5_moved_due", "_law_u5_right", "_law_u5_refused_right", "law"] : List Str), (["ValueError", "all", "any", "bool", "enumerate", "int", "isinstance", "len", "list", "max", "min", "range", "sorted", "str", "sum", "tuple", "zip"] : List Str)⟩
def errs : List Str := (["BadLand", "BadRegion", "BadVans", "BadPlace", "TooMany", "NoVan"] : List Str)
def rs : List Hear := [⟨"_law_u5_heard", ⟨"call", "refused_one", "found", "name", "is_one"⟩, "Refused", heard0, defScope (top 69), defBody (top 69), defArgs (top 69)⟩]
def txt : Txt0 := ⟨rows, tb, errs, rs, 60⟩
theorem chk_ok : txt.chk = true := by decide +kernel
end K05
end
section
set_option linter.all false
set_option maxRecDepth 100000
set_option maxHeartbeats 0
namespace K05
open PySem PySem.Spec PyProof.Rows L2 Pv
def ini : Stmt := inClass (top 1) 0
theorem more_ok : txt.more "Refused" ini "self" "what" = true := by decide +kernel
def loose : List Str := (["Refused", "BadLand", "BadRegion", "BadVans", "BadPlace", "TooMany", "NoVan", "whole", "MOST_PLACES", "MOST_FLOOR", "MOST_MANY", "PAIR", "LEAST_LOT", "is_pair", "is_place", "is_places_lot", "are_nested", "is_region", "land_fault", "asked_land", "asked_place", "vans_fault", "asked_vans", "sum_in", "one_moved"] : List Str) ++ (["moved", "limits_in", "lot_in", "spare_in", "under_way", "spares_now", "first_below", "asked_standing", "broken", "_law_pool", "_law_take", "_law_one", "_law_mixed", "_law_uw_is_whole", "_law_uw_is_in", "_law_uw_lot_fault", "_law_uw_is_place", "_law_uw_is_region", "_law_uw_is_nested", "_law_uw_land_fault", "_law_uw_rows_fault", "_law_uw_vans_fault", "_law_uw_limits", "_law_uw_lot", "_law_uw_spare"] : List Str) ++ (["_law_uw_broken", "_law_uw_moved", "_law_uw_nest", "_law_uw_floor", "_law_uw_many", "_law_uw_land", "_law_uw_vans", "_law_uw_odd_land", "_law_uw_odd_vans", "_law_uw_odd_place", "_law_uw_arguments", "_law_uq_is_whole", "_law_uq_same", "_law_u5_heard", "_law_u5_moved_due", "_law_u5_right", "_law_u5_refused_right"] : List Str)
abbrev rowR : PySem.W.OpenRow := PySem.W.OpenLaw.row PySem.Challenge.rw_neverunder_k05_broken_limits_and_moves
abbrev hk : PySem.W.Hook := He.hookX 4 (faT txt "Refused") (fnT txt "Refused" ini) [] (tfT txt) (exB "Refused" txt.errs (qsT txt))
def ob (s : PySem.W.SharedT) : He.AlX := He.obsX 4 (faT txt "Refused") (fnT txt "Refused" ini) [] (tfT txt) (exB "Refused" txt.errs (qsT txt)) (HandSHeadRun.getT s)
theorem ob_eq (s : PySem.W.SharedT) : ob s = hk.obs s.abs := He.obsX_eq (HandSHeadRun.getT_eq s)
theorem run1 (w : World) : ∀ os : OsState, (HandSHeadRun.endF (HandSHeadRun.stepQ (HandSHeadRun.denQ HandSHeadRun.tabQ) rowR.prog w) 4000 rowR.prog w os).map (fun s => HandSHeadRun.looksF rowR.prog (PySem.W.boot_heap w.params) s.abs) = some true := by
  intro os
  kernel_rfl
theorem run2 (w : World) : ∀ os : OsState, (HandSHeadRun.endF (HandSHeadRun.stepQ (HandSHeadRun.denQ HandSHeadRun.tabQ) rowR.prog w) 4000 rowR.prog w os).map (fun s => HandSHeadRun.seenQ (PySem.W.view rowR.prog [73]) loose (PySem.importedModules rowR.prog.main.body) (fun s => PySem.W.xlAt (PySem.W.view rowR.prog [73]) [] s && PySem.W.recOk rowR.toRowW.records s) s.abs) = some (PySem.W.openGood (PySem.W.view rowR.prog [73]) loose) := by
  intro os
  kernel_rfl
theorem run3 (w : World) : ∀ os : OsState, (HandSHeadRun.endF (HandSHeadRun.stepQ (HandSHeadRun.denQ HandSHeadRun.tabQ) rowR.prog w) 4000 rowR.prog w os).map (fun s => (ob s).1) = some (hk.val w).1 := by
  intro os
  kernel_rfl
theorem run4 (w : World) : ∀ os : OsState, (HandSHeadRun.endF (HandSHeadRun.stepQ (HandSHeadRun.denQ HandSHeadRun.tabQ) rowR.prog w) 4000 rowR.prog w os).map (fun s => (ob s).2) = some (hk.val w).2 := by
  intro os
  kernel_rfl
theorem run_parts {α β γ δ ε : Type} {S : Option α} {f : α → β} {g : α → γ} {h : α → δ × ε} {a : β} {b : γ} {c : δ × ε} (h1 : S.map f = some a) (h2 : S.map g = some b) (h3 : S.map (fun s => (h s).1) = some c.1) (h4 : S.map (fun s => (h s).2) = some c.2) : S.map (fun s => (f s, g s, h s)) = some (a, b, c) := by
  cases S with
  | none => cases h1
  | some s =>
    have e1 := Option.some.inj h1
    have e2 := Option.some.inj h2
    have e3 := Option.some.inj h3
    have e4 := Option.some.inj h4
    show some (f s, g s, h s) = _
    rw [show h s = c from Prod.ext e3 e4, e1, e2]
theorem run (w : World) : HandSHeadRun.RunEq rowR (PySem.W.view rowR.prog [73]) hk ob 4000 loose w := fun os => run_parts (run1 w os) (run2 w os) (run3 w os) (run4 w os)
end K05
end
section
set_option linter.all false
set_option maxRecDepth 100000
namespace Pv
open PySem
/-! M1: reading the evaluator by steps -/
@[irreducible] def W {α : Type} (o : Out α) (Q : α → Bx → Prop) (X : Nat → D → Bx → Prop) : Prop := match o with
  | .ok a B => Q a B
  | .ex c w B => X c w B
  | .bad => False
/-- one behind the other -/
def Out.bnd {α β : Type} (o : Out α) (f : α → Bx → Out β) : Out β := o.bind f
section
variable {α β : Type} {Q : α → Bx → Prop} {X : Nat → D → Bx → Prop} {a b : α} {B B0 : Bx}
@[simp] theorem W_ok : W (.ok a B) Q X = Q a B := by unfold W; rfl
@[simp] theorem W_ex {c : Nat} {w : D} : W (.ex c w B) Q X = X c w B := by unfold W; rfl
@[simp] theorem W_bad : W (.bad) Q X = False := by unfold W; rfl
theorem W_bind {o : Out β} {f : β → Bx → Out α} : W (o.bind f) Q X = W o (fun a B => W (f a B) Q X) X := by
  cases o <;> simp only [Out.bind, W_ok, W_ex, W_bad]
@[simp] theorem W_bnd {o : Out β} {f : β → Bx → Out α} : W (o.bnd f) Q X = W o (fun a B => W (f a B) Q X) X := W_bind
@[simp] theorem bnd_ok {f : α → Bx → Out β} : (Out.ok a B).bnd f = f a B := (rfl)
@[simp] theorem bnd_ex {f : α → Bx → Out β} {c : Nat} {w : D} : (Out.ex c w B).bnd f = .ex c w B := (rfl)
theorem W_congr {o o' : Out α} (h : o = o') : W o Q X = W o' Q X := by rw [h]
theorem W.mono {o : Out α} {Q' : α → Bx → Prop} {X' : Nat → D → Bx → Prop} (h : W o Q' X') (hq : ∀ a B, Q' a B → Q a B) (hx : ∀ c w B, X' c w B → X c w B) : W o Q X := by
  cases o with
  | ok a B => rw [W_ok] at *; exact hq _ _ h
  | ex c w B => rw [W_ex] at *; exact hx _ _ _ h
  | bad => rw [W_bad] at h; exact h.elim
abbrev NoX : Nat → D → Bx → Prop := fun _ _ _ => False
/-- a call that gives something -/
theorem W.use {o : Out α} {Q' : α → Bx → Prop} (h : W o Q' NoX) (hq : ∀ a B, Q' a B → Q a B) : W o Q X := h.mono hq fun _ _ _ z => z.elim
theorem W.eq {o : Out α} {v : α} (h : W o (fun a B => a = v ∧ B = B0) NoX) : o = .ok v B0 := by
  cases o with
  | ok a B => rw [W_ok] at h; obtain ⟨h1, h2⟩ := h; rw [h1, h2]
  | ex c w B => rw [W_ex] at h; exact h.elim
  | bad => rw [W_bad] at h; exact h.elim
theorem W.eqx {o : Out α} {c : Nat} {w : D} (h : W o (fun _ _ => False) (fun c' w' B' => c' = c ∧ w' = w ∧ B' = B0)) : o = .ex c w B0 := by
  cases o with
  | ok a B => rw [W_ok] at h; exact h.elim
  | ex c w B => rw [W_ex] at h; obtain ⟨h1, h2, h3⟩ := h; rw [h1, h2, h3]
  | bad => rw [W_bad] at h; exact h.elim
theorem W.ex {o : Out α} (h : W o Q NoX) : ∃ a B, o = .ok a B ∧ Q a B := by
  cases o with
  | ok a B => rw [W_ok] at h; exact ⟨a, B, rfl, h⟩
  | ex c w B => rw [W_ex] at h; exact h.elim
  | bad => rw [W_bad] at h; exact h.elim
/-- a known outcome -/
theorem W.of {o o' : Out α} (h : o = o') (q : W o' Q X) : W o Q X := by rw [h]; exact q
end
def tst {α : Type} (o : Option Bool) (a b : Out α) : Out α := match o with
  | some true => a
  | some false => b
  | none => .bad
@[simp] theorem tst_true {α : Type} {a b : Out α} : tst (some true) a b = a := (rfl)
@[simp] theorem tst_false {α : Type} {a b : Out α} : tst (some false) a b = b := (rfl)
@[simp] theorem tst_not {α : Type} {a b : Out α} {c : Bool} : tst (some !c) a b = tst (some c) b a := by cases c <;> rfl
@[simp] theorem tst_dec {α : Type} {a b : Out α} {p : Prop} [Decidable p] : tst (some (decide p)) a b = if p then a else b := by by_cases h : p <;> simp [h]
@[simp] theorem tst_or {α : Type} {a b : Out α} {p q : Bool} : tst (some (p || q)) a b = tst (some p) a (tst (some q) a b) := by cases p <;> rfl
@[simp] theorem tst_and {α : Type} {a b : Out α} {p q : Bool} : tst (some (p && q)) a b = tst (some p) (tst (some q) a b) b := by cases p <;> rfl
theorem W_tst {α : Type} {a b : Out α} {c : Bool} {Q : α → Bx → Prop} {X : Nat → D → Bx → Prop} (h1 : c = true → W a Q X) (h2 : c = false → W b Q X) : W (tst (some c) a b) Q X := by
  cases c with
  | true => exact h1 rfl
  | false => exact h2 rfl
/-- the items of a list or tuple -/
def its {α : Type} (o : Option (List D)) (k : List D → Out α) : Out α := match o with
  | some xs => k xs
  | none => .bad
@[simp] theorem its_some {α : Type} {xs : List D} {k : List D → Out α} : its (some xs) k = k xs := (rfl)
def lst {α : Type} (d : D) (k : List D → Out α) : Out α := match d with
  | .list xs => k xs
  | _ => .bad
@[simp] theorem lst_list {α : Type} {xs : List D} {k : List D → Out α} : lst (.list xs) k = k xs := (rfl)
def nxt (f : Fl) (k : List Sl → Out Fl) (B : Bx) : Out Fl := match f with
  | .nx ρ => k ρ
  | f => .ok f B
@[simp] theorem nxt_nx {ρ : List Sl} {k : List Sl → Out Fl} {B : Bx} : nxt (.nx ρ) k B = k ρ := (rfl)
@[simp] theorem nxt_rt {d : D} {b : Bool} {k : List Sl → Out Fl} {B : Bx} : nxt (.rt d b) k B = .ok (.rt d b) B := (rfl)
@[simp] theorem nxt_bk {ρ : List Sl} {k : List Sl → Out Fl} {B : Bx} : nxt (.bk ρ) k B = .ok (.bk ρ) B := (rfl)
@[simp] theorem nxt_ct {ρ : List Sl} {k : List Sl → Out Fl} {B : Bx} : nxt (.ct ρ) k B = .ok (.ct ρ) B := (rfl)
def opt {α β : Type} (o : Option α) (k : α → Out β) : Out β := match o with
  | some a => k a
  | none => .bad
@[simp] theorem opt_some {α β : Type} {a : α} {k : α → Out β} : opt (some a) k = k a := (rfl)
def tr (d : D) : Option Bool := truth d
@[simp] theorem tr_none : tr .none = some false := (rfl)
@[simp] theorem tr_bool {b : Bool} : tr (.bool b) = some b := (rfl)
@[simp] theorem tr_int {i : Int} : tr (.int i) = some (i != 0) := (rfl)
@[simp] theorem tr_list {xs : List D} : tr (.list xs) = some (!xs.isEmpty) := (rfl)
@[simp] theorem tr_tuple {xs : List D} : tr (.tuple xs) = some (!xs.isEmpty) := (rfl)
def m_lcF (C : Cl) (t : Tg) (own : List Nat) (elt c : E) (ρ : List Sl) (d : D) (B : Bx) : Out (Option D) :=
  opt (bindT t d (wipeS ρ own)) fun ρ' => (ev C c false ρ' B).bnd fun b B => tst (tr b.1) ((ev C elt true ρ' B).bnd fun y B => .ok (some y.1) B) (.ok none B)
def turn (C : Cl) (t : Tg) (b : S) (d : D) (ρ : List Sl) (B : Bx) : Out Fl := opt (bindT t d ρ) fun ρ => ex C b ρ B
section
variable {C : Cl} {m : Bool} {ρ : List Sl} {B : Bx} {a b c d i es e : E}
@[simp] theorem ev_k {x : D} : ev C (.k x) m ρ B = .ok (x, false) B := (rfl)
@[simp] theorem ev_g {x : D} {n : Str} : ev C (.g n x) m ρ B = .ok (x, false) B := (rfl)
def slot (m : Bool) (B : Bx) : Option Sl → Out R
  | some (.vl d) => .ok (d, false) B
  | some (.ow xs) => if m then .bad else .ok (.list xs, false) B
  | _ => .bad
@[simp] theorem slot_vl {d : D} : slot m B (some (.vl d)) = .ok (d, false) B := (rfl)
@[simp] theorem slot_ow {xs : List D} : slot false B (some (.ow xs)) = .ok (.list xs, false) B := (rfl)
@[simp] theorem ev_v {i : Nat} : ev C (.v i) m ρ B = slot m B ρ[i]? := by
  rw [ev]; cases h : ρ[i]? with
  | none => rfl
  | some s => cases s <;> rfl
theorem ev_neg0 : ev C (.neg a) m ρ B = (ev C a false ρ B).bind fun x B => opt (negD x.1) fun d => .ok (d, false) B := by
  rw [ev]; congr 1; funext x B; cases negD x.1 <;> rfl
@[simp] theorem ev_neg : ev C (.neg a) m ρ B = (ev C a false ρ B).bnd fun x B => opt (negD x.1) fun d => .ok (d, false) B := ev_neg0
theorem ev_not0 : ev C (.not a) m ρ B = (ev C a false ρ B).bind fun x B => opt (truth x.1) fun b => .ok (.bool !b, false) B := by
  rw [ev]; congr 1; funext x B; cases truth x.1 <;> rfl
@[simp] theorem ev_not : ev C (.not a) m ρ B = (ev C a false ρ B).bnd fun x B => opt (tr x.1) fun b => .ok (.bool !b, false) B := ev_not0
theorem ev_bin0 {o : Operator} : ev C (.bin o a b) m ρ B = (ev C a false ρ B).bind fun x B => (ev C b false ρ B).bind fun y B => opt (binD o x.1 y.1) fun r => .ok r B := by
  rw [ev]; congr 1; funext x B; congr 1; funext y B; cases binD o x.1 y.1 <;> rfl
@[simp] theorem ev_bin {o : Operator} : ev C (.bin o a b) m ρ B = (ev C a false ρ B).bnd fun x B => (ev C b false ρ B).bnd fun y B => opt (binD o x.1 y.1) fun r => .ok r B := ev_bin0
theorem ev_cmp0 {o : CmpOp} : ev C (.cmp o a b) m ρ B = (ev C a false ρ B).bind fun x B => (ev C b false ρ B).bind fun y B => opt (cmpD o x.1 y.1) fun b => .ok (.bool b, false) B := by
  rw [ev]; congr 1; funext x B; congr 1; funext y B; cases cmpD o x.1 y.1 <;> rfl
@[simp] theorem ev_cmp {o : CmpOp} : ev C (.cmp o a b) m ρ B = (ev C a false ρ B).bnd fun x B => (ev C b false ρ B).bnd fun y B => opt (cmpD o x.1 y.1) fun b => .ok (.bool b, false) B := ev_cmp0
theorem ev_cmp20 {o p : CmpOp} : ev C (.cmp2 o p a b c) m ρ B = (ev C a false ρ B).bind fun x B => (ev C b false ρ B).bind fun y B => tst (cmpD o x.1 y.1) ((ev C c false ρ B).bind fun z B => opt (cmpD p y.1 z.1) fun b => .ok (.bool b, false) B) (.ok (.bool false, false) B) := by
  rw [ev]; congr 1; funext x B; congr 1; funext y B
  cases cmpD o x.1 y.1 with
  | none => rfl
  | some b => cases b with
    | false => rfl
    | true => show Out.bind _ _ = Out.bind _ _; congr 1; funext z B; cases cmpD p y.1 z.1 <;> rfl
@[simp] theorem ev_cmp2 {o p : CmpOp} : ev C (.cmp2 o p a b c) m ρ B = (ev C a false ρ B).bnd fun x B => (ev C b false ρ B).bnd fun y B => tst (cmpD o x.1 y.1) ((ev C c false ρ B).bnd fun z B => opt (cmpD p y.1 z.1) fun b => .ok (.bool b, false) B) (.ok (.bool false, false) B) := ev_cmp20
theorem ev_and0 : ev C (.and a b) m ρ B = (ev C a m ρ B).bind fun x B => tst (truth x.1) (ev C b m ρ B) (.ok (x.1, false) B) := by
  rw [ev]; congr 1
@[simp] theorem ev_and : ev C (.and a b) m ρ B = (ev C a m ρ B).bnd fun x B => tst (tr x.1) (ev C b m ρ B) (.ok (x.1, false) B) := ev_and0
theorem ev_or0 : ev C (.or a b) m ρ B = (ev C a m ρ B).bind fun x B => tst (truth x.1) (.ok (x.1, false) B) (ev C b m ρ B) := by
  rw [ev]; congr 1; funext x B; cases truth x.1 with
  | none => rfl
  | some b => cases b <;> rfl
@[simp] theorem ev_or : ev C (.or a b) m ρ B = (ev C a m ρ B).bnd fun x B => tst (tr x.1) (.ok (x.1, false) B) (ev C b m ρ B) := ev_or0
theorem ev_ite0 : ev C (.ite c a b) m ρ B = (ev C c false ρ B).bind fun x B => tst (truth x.1) (ev C a m ρ B) (ev C b m ρ B) := by
  rw [ev]; congr 1
@[simp] theorem ev_ite : ev C (.ite c a b) m ρ B = (ev C c false ρ B).bnd fun x B => tst (tr x.1) (ev C a m ρ B) (ev C b m ρ B) := ev_ite0
theorem ev_tup0 : ev C (.tup es) m ρ B = (ev C es true ρ B).bind fun x B => lst x.1 fun xs => if xs.length ≤ 16777216 then .ok (.tuple xs, false) B else .bad := by
  rw [ev]; congr 1
@[simp] theorem ev_tup : ev C (.tup es) m ρ B = (ev C es true ρ B).bnd fun x B => lst x.1 fun xs => if xs.length ≤ 16777216 then .ok (.tuple xs, false) B else .bad := ev_tup0
theorem ev_lst0 : ev C (.lst es) m ρ B = (ev C es true ρ B).bind fun x B => lst x.1 fun xs => if xs.length ≤ 16777216 then .ok (.list xs, true) B else .bad := by
  rw [ev]; congr 1
@[simp] theorem ev_lst : ev C (.lst es) m ρ B = (ev C es true ρ B).bnd fun x B => lst x.1 fun xs => if xs.length ≤ 16777216 then .ok (.list xs, true) B else .bad := ev_lst0
theorem ev_box0 : ev C (.box es) m ρ B = (ev C es true ρ B).bind fun x B => lst x.1 fun xs => if xs.length ≤ 16777216 then .ok (bref B.length, false) (B ++ [xs]) else .bad := by
  rw [ev]; congr 1
@[simp] theorem ev_box : ev C (.box es) m ρ B = (ev C es true ρ B).bnd fun x B => lst x.1 fun xs => if xs.length ≤ 16777216 then .ok (bref B.length, false) (B ++ [xs]) else .bad := ev_box0
@[simp] theorem ev_nil : ev C .nil m ρ B = .ok (.list [], false) B := (rfl)
theorem ev_cons0 : ev C (.cons a b) m ρ B = (ev C a m ρ B).bind fun x B => (ev C b m ρ B).bind fun y B => lst y.1 fun ys => .ok (.list (x.1 :: ys), false) B := by
  rw [ev]; congr 1
@[simp] theorem ev_cons : ev C (.cons a b) m ρ B = (ev C a m ρ B).bnd fun x B => (ev C b m ρ B).bnd fun y B => lst y.1 fun ys => .ok (.list (x.1 :: ys), false) B := ev_cons0
theorem ev_idx0 : ev C (.idx a i) m ρ B = (ev C a false ρ B).bind fun x B => (ev C i false ρ B).bind fun y B => opt (idxD B x.1 y.1) fun d => .ok (d, false) B := by
  rw [ev]; congr 1; funext x B; congr 1; funext y B; cases idxD B x.1 y.1 <;> rfl
@[simp] theorem ev_idx : ev C (.idx a i) m ρ B = (ev C a false ρ B).bnd fun x B => (ev C i false ρ B).bnd fun y B => opt (idxD B x.1 y.1) fun d => .ok (d, false) B := ev_idx0
theorem ev_slc0 : ev C (.slc a b c) m ρ B = (ev C a false ρ B).bind fun x B => (ev C b false ρ B).bind fun l B => opt (partE b l.1) fun p => (ev C c false ρ B).bind fun h B => opt (partE c h.1) fun q => opt (slcP x.1 p q) fun r => .ok r B := by
  rw [ev]; congr 1; funext x B; congr 1; funext y B
  cases partE b y.1 with
  | none => rfl
  | some p =>
    show Out.bind _ _ = Out.bind _ _; congr 1; funext z B; cases partE c z.1 with
    | none => rfl
    | some q => show Out.opt (slcP x.1 p q) B = opt (slcP x.1 p q) _; cases slcP x.1 p q <;> rfl
@[simp] theorem ev_slc : ev C (.slc a b c) m ρ B = (ev C a false ρ B).bnd fun x B => (ev C b false ρ B).bnd fun l B => opt (partE b l.1) fun p => (ev C c false ρ B).bnd fun h B => opt (partE c h.1) fun q => opt (slcP x.1 p q) fun r => .ok r B := ev_slc0
theorem ev_call0 {f : Nat} : ev C (.call f es) m ρ B = (ev C es (!lent ρ es) ρ B).bind fun x B => lst x.1 fun xs => if lent ρ es = true then lentOut (C f xs B) else C f xs B := by
  rw [ev]; congr 1
@[simp] theorem ev_call {f : Nat} : ev C (.call f es) m ρ B = (ev C es (!lent ρ es) ρ B).bnd fun x B => lst x.1 fun xs => if lent ρ es = true then lentOut (C f xs B) else C f xs B := ev_call0
theorem ev_bi0 {o : Bi} : ev C (.bi o es) m ρ B = (ev C es false ρ B).bind fun x B => lst x.1 fun xs => opt (biD B o xs) fun r => .ok r B := by
  rw [ev]; congr 1; funext x B; cases h : x.1 <;> try rfl
  show Out.opt _ _ = opt _ _
  rename_i xs
  cases biD B o xs <;> rfl
@[simp] theorem ev_bi {o : Bi} : ev C (.bi o es) m ρ B = (ev C es false ρ B).bnd fun x B => lst x.1 fun xs => opt (biD B o xs) fun r => .ok r B := ev_bi0
@[irreducible] def rngX (ds : List D) : Option (List D) := rngD ds
@[simp] theorem ev_rng : ev C (.rng es) m ρ B = (ev C es false ρ B).bnd fun x B => lst x.1 fun xs => opt (rngX xs) fun l => .ok (.list l, false) B := by
  rw [ev]
  show Out.bind _ _ = Out.bind _ _
  congr 1; funext x B; cases h : x.1 <;> try rfl
  show Out.opt _ _ = opt _ _
  rename_i xs
  unfold rngX
  cases rngD xs <;> rfl
theorem ev_enum0 : ev C (.enum a) m ρ B = (ev C a m ρ B).bind fun x B => its (itemsOf x.1) fun l => .ok (.list (enumL 0 l), false) B := by
  rw [ev]; congr 1; funext x B; cases itemsOf x.1 <;> rfl
@[simp] theorem ev_enum : ev C (.enum a) m ρ B = (ev C a m ρ B).bnd fun x B => its (itemsOf x.1) fun l => .ok (.list (enumL 0 l), false) B := ev_enum0
theorem ev_zip0 : ev C (.zip a b) m ρ B = (ev C a true ρ B).bind fun x B => (ev C b true ρ B).bind fun y B => lst x.1 fun xs => lst y.1 fun ys => .ok (.list (zipL xs ys), false) B := by
  rw [ev]; congr 1
@[simp] theorem ev_zip : ev C (.zip a b) m ρ B = (ev C a true ρ B).bnd fun x B => (ev C b true ρ B).bnd fun y B => lst x.1 fun xs => lst y.1 fun ys => .ok (.list (zipL xs ys), false) B := ev_zip0
theorem ev_lc0 {t : Tg} {own : List Nat} {elt it c : E} : ev C (.lc t own elt it c) m ρ B = (ev C it false ρ B).bind fun x B => its (itemsOf x.1) fun xs => (noEx (lcL (m_lcF C t own elt c ρ) xs B)).bind fun r B => .ok (.list r, true) B := by
  rw [ev]; congr 1; funext x B
  cases itemsOf x.1 with
  | none => rfl
  | some xs =>
    show Out.bind (noEx (lcL _ _ _)) _ = Out.bind (noEx (lcL _ _ _)) _
    congr 3
    funext d B
    unfold m_lcF
    cases bindT t d (wipeS ρ own) with
    | none => rfl
    | some ρ' => show Out.bind _ _ = Out.bind _ _; congr 1
@[simp] theorem ev_lc {t : Tg} {own : List Nat} {elt it c : E} : ev C (.lc t own elt it c) m ρ B = (ev C it false ρ B).bnd fun x B => its (itemsOf x.1) fun xs => (noEx (lcL (m_lcF C t own elt c ρ) xs B)).bnd fun r B => .ok (.list r, true) B := ev_lc0
def hrd (hs : List (Str × Nat)) : Out R → Out R
  | .ok r B => .ok (.tuple [.str "told", r.1], false) B
  | .ex c w B => .ok (.tuple [.str (heardOf hs c), w], false) B
  | .bad => .bad
@[simp] theorem ev_heard {f : Nat} {hs : List (Str × Nat)} : ev C (.heard f hs e) m ρ B = hrd hs (ev C e true ρ B) := by
  rw [ev]; cases ev C e true ρ B <;> rfl
@[simp] theorem W_hrd {o : Out R} {hs : List (Str × Nat)} {Q : R → Bx → Prop} {X : Nat → D → Bx → Prop} : W (hrd hs o) Q X = W o (fun r B => Q (.tuple [.str "told", r.1], false) B) (fun c w B => Q (.tuple [.str (heardOf hs c), w], false) B) := by
  unfold W; cases o <;> rfl
end
section
variable {C : Cl} {ρ : List Sl} {B : Bx} {c e e' o : E} {s s' : S} {i j : Nat}
@[simp] theorem ex_nop : ex C .nop ρ B = .ok (.nx ρ) B := (rfl)
theorem ex_seq0 : ex C (.seq s s') ρ B = (ex C s ρ B).bind fun f B => nxt f (fun ρ => ex C s' ρ B) B := by
  rw [ex]; congr 1
@[simp] theorem ex_seq : ex C (.seq s s') ρ B = (ex C s ρ B).bnd fun f B => nxt f (fun ρ => ex C s' ρ B) B := ex_seq0
theorem ex_set0 {b : Bool} : ex C (.set b i e) ρ B = (ev C e true ρ B).bind fun r B => .ok (.nx (ρ.set i (slotOf b r B))) B := by rw [ex]
@[simp] theorem ex_set {b : Bool} : ex C (.set b i e) ρ B = (ev C e true ρ B).bnd fun r B => .ok (.nx (ρ.set i (slotOf b r B))) B := ex_set0
theorem ex_unp0 {t : Tg} : ex C (.unp t e) ρ B = (ev C e true ρ B).bind fun r B => opt (bindT t r.1 ρ) fun ρ => .ok (.nx ρ) B := by
  rw [ex]; congr 1; funext r B; cases bindT t r.1 ρ <;> rfl
@[simp] theorem ex_unp {t : Tg} : ex C (.unp t e) ρ B = (ev C e true ρ B).bnd fun r B => opt (bindT t r.1 ρ) fun ρ => .ok (.nx ρ) B := ex_unp0
theorem ex_par0 {p q : Bool} : ex C (.par p q i j e e') ρ B = (ev C e true ρ B).bind fun x B1 => (ev C e' true ρ B1).bind fun y B2 => .ok (.nx ((ρ.set i (slotOf p x B1)).set j (slotOf q y B2))) B2 := by rw [ex]
@[simp] theorem ex_par {p q : Bool} : ex C (.par p q i j e e') ρ B = (ev C e true ρ B).bnd fun x B1 => (ev C e' true ρ B1).bnd fun y B2 => .ok (.nx ((ρ.set i (slotOf p x B1)).set j (slotOf q y B2))) B2 := ex_par0
theorem ex_ex0 : ex C (.ex e) ρ B = (ev C e false ρ B).bind fun _ B => .ok (.nx ρ) B := by rw [ex]
@[simp] theorem ex_ex : ex C (.ex e) ρ B = (ev C e false ρ B).bnd fun _ B => .ok (.nx ρ) B := ex_ex0
def owned {α : Type} (o : Option Sl) (k : List D → Out α) : Out α := match o with
  | some (.ow xs) => k xs
  | _ => .bad
@[simp] theorem owned_ow {α : Type} {xs : List D} {k : List D → Out α} : owned (some (.ow xs)) k = k xs := (rfl)
theorem ex_app0 : ex C (.app i e) ρ B = owned ρ[i]? fun xs => (ev C e true ρ B).bind fun r B => if xs.length < 16777216 then .ok (.nx (ρ.set i (.ow (xs ++ [r.1])))) B else .bad := by
  rw [ex]; cases h : ρ[i]? with
  | none => rfl
  | some s => cases s <;> rfl
@[simp] theorem ex_app : ex C (.app i e) ρ B = owned ρ[i]? fun xs => (ev C e true ρ B).bnd fun r B => if xs.length < 16777216 then .ok (.nx (ρ.set i (.ow (xs ++ [r.1])))) B else .bad := ex_app0
def ownL (r : R) (k : List D → Out Fl) : Out Fl := match r with
  | (.list ys, true) => k ys
  | _ => .bad
@[simp] theorem ownL_t {ys : List D} {k : List D → Out Fl} : ownL (.list ys, true) k = k ys := (rfl)
theorem ex_ext0 : ex C (.ext i e) ρ B = owned ρ[i]? fun xs => (ev C e true ρ B).bind fun r B => ownL r fun ys => if xs.length + ys.length ≤ 16777216 then .ok (.nx (ρ.set i (.ow (xs ++ ys)))) B else .bad := by
  rw [ex]; cases h : ρ[i]? with
  | none => rfl
  | some s => cases s <;> rfl
@[simp] theorem ex_ext : ex C (.ext i e) ρ B = owned ρ[i]? fun xs => (ev C e true ρ B).bnd fun r B => ownL r fun ys => if xs.length + ys.length ≤ 16777216 then .ok (.nx (ρ.set i (.ow (xs ++ ys)))) B else .bad := ex_ext0
@[simp] theorem ex_popT {t : Tg} : ex C (.popT t i) ρ B = owned ρ[i]? fun xs => opt xs.getLast? fun d => opt (bindT t d (ρ.set i (.ow xs.dropLast))) fun ρ => .ok (.nx ρ) B := by
  rw [ex]; cases h : ρ[i]? with
  | none => rfl
  | some s => cases s with
    | ow xs => show (match xs.getLast? with | some d => _ | none => _) = opt _ _; cases xs.getLast? with
      | none => rfl
      | some d => show Out.opt ((bindT t d (ρ.set i (.ow xs.dropLast))).map Fl.nx) B = opt (bindT t d (ρ.set i (.ow xs.dropLast))) _; cases bindT t d (ρ.set i (.ow xs.dropLast)) <;> rfl
    | _ => rfl
def intV {α : Type} (d : D) (k : Int → Out α) : Out α := match d with
  | .int n => k n
  | _ => .bad
@[simp] theorem intV_int {α : Type} {n : Int} {k : Int → Out α} : intV (.int n) k = k n := (rfl)
theorem ex_appPop0 : ex C (.appPop i j e) ρ B = owned ρ[i]? fun xs => owned ρ[j]? fun ys => if i = j then .bad else (ev C e true ρ B).bind fun r B => intV r.1 fun n => if xs.length < 16777216 ∧ 0 ≤ n ∧ n < 2 ^ 62 then opt ys[n.toNat]? fun d => .ok (.nx ((ρ.set j (.ow (ys.eraseIdx n.toNat))).set i (.ow (xs ++ [d])))) B else .bad := by
  rw [ex]
  split
  · rename_i xs ys h1 h2
    rw [h1, h2]
    simp only [owned_ow]
    split
    · rfl
    · congr 1; funext r B
      cases h : r.1 <;> try rfl
      simp only [intV_int]
      split
      · split <;> simp [*, opt]
      · rfl
  · rename_i h
    cases h1 : ρ[i]? with
    | none => rfl
    | some s => cases s with
      | ow xs => cases h2 : ρ[j]? with
        | none => rfl
        | some s => cases s with
          | ow ys => exact absurd h2 (h _ _ h1)
          | _ => rfl
      | _ => rfl
@[simp] theorem ex_appPop : ex C (.appPop i j e) ρ B = owned ρ[i]? fun xs => owned ρ[j]? fun ys => if i = j then .bad else (ev C e true ρ B).bnd fun r B => intV r.1 fun n => if xs.length < 16777216 ∧ 0 ≤ n ∧ n < 2 ^ 62 then opt ys[n.toNat]? fun d => .ok (.nx ((ρ.set j (.ow (ys.eraseIdx n.toNat))).set i (.ow (xs ++ [d])))) B else .bad := ex_appPop0
def retS (B : Bx) : Option Sl → Out Fl
  | some (.vl d) => .ok (.rt d false) B
  | some (.ow xs) => .ok (.rt (.list xs) true) B
  | _ => .bad
@[simp] theorem retS_vl {d : D} : retS B (some (.vl d)) = .ok (.rt d false) B := (rfl)
@[simp] theorem retS_ow {xs : List D} : retS B (some (.ow xs)) = .ok (.rt (.list xs) true) B := (rfl)
@[simp] theorem ex_retv : ex C (.ret (.v i)) ρ B = retS B ρ[i]? := by
  rw [ex]; cases h : ρ[i]? with
  | none => rfl
  | some s => cases s <;> rfl
@[simp] def isV : E → Bool
  | .v _ => true
  | _ => false
theorem ex_ret0 (h : isV e = false) : ex C (.ret e) ρ B = (ev C e true ρ B).bind fun r B => .ok (.rt r.1 r.2) B := by
  cases e <;> first
    | (cases h; done)
    | (rw [ex]; first | rfl | (intro i z; cases z))
    | rfl
theorem ex_ret (h : isV e = false) : ex C (.ret e) ρ B = (ev C e true ρ B).bnd fun r B => .ok (.rt r.1 r.2) B := ex_ret0 h
@[simp] theorem ex_ret_k {x : D} : ex C (.ret (.k x)) ρ B = (ev C (.k x) true ρ B).bnd fun r B => .ok (.rt r.1 r.2) B := ex_ret rfl
@[simp] theorem ex_ret_g {x : D} {n : Str} : ex C (.ret (.g n x)) ρ B = (ev C (.g n x) true ρ B).bnd fun r B => .ok (.rt r.1 r.2) B := ex_ret rfl
@[simp] theorem ex_ret_neg  : ex C (.ret (.neg e)) ρ B = (ev C (.neg e) true ρ B).bnd fun r B => .ok (.rt r.1 r.2) B := ex_ret rfl
@[simp] theorem ex_ret_not  : ex C (.ret (.not e)) ρ B = (ev C (.not e) true ρ B).bnd fun r B => .ok (.rt r.1 r.2) B := ex_ret rfl
@[simp] theorem ex_ret_bin {p : Operator} : ex C (.ret (.bin p e o)) ρ B = (ev C (.bin p e o) true ρ B).bnd fun r B => .ok (.rt r.1 r.2) B := ex_ret rfl
@[simp] theorem ex_ret_cmp {p : CmpOp} : ex C (.ret (.cmp p e o)) ρ B = (ev C (.cmp p e o) true ρ B).bnd fun r B => .ok (.rt r.1 r.2) B := ex_ret rfl
@[simp] theorem ex_ret_cmp2 {p q : CmpOp} : ex C (.ret (.cmp2 p q e o c)) ρ B = (ev C (.cmp2 p q e o c) true ρ B).bnd fun r B => .ok (.rt r.1 r.2) B := ex_ret rfl
@[simp] theorem ex_ret_and  : ex C (.ret (.and e o)) ρ B = (ev C (.and e o) true ρ B).bnd fun r B => .ok (.rt r.1 r.2) B := ex_ret rfl
@[simp] theorem ex_ret_or  : ex C (.ret (.or e o)) ρ B = (ev C (.or e o) true ρ B).bnd fun r B => .ok (.rt r.1 r.2) B := ex_ret rfl
@[simp] theorem ex_ret_ite  : ex C (.ret (.ite c e o)) ρ B = (ev C (.ite c e o) true ρ B).bnd fun r B => .ok (.rt r.1 r.2) B := ex_ret rfl
@[simp] theorem ex_ret_tup  : ex C (.ret (.tup e)) ρ B = (ev C (.tup e) true ρ B).bnd fun r B => .ok (.rt r.1 r.2) B := ex_ret rfl
@[simp] theorem ex_ret_lst  : ex C (.ret (.lst e)) ρ B = (ev C (.lst e) true ρ B).bnd fun r B => .ok (.rt r.1 r.2) B := ex_ret rfl
@[simp] theorem ex_ret_box  : ex C (.ret (.box e)) ρ B = (ev C (.box e) true ρ B).bnd fun r B => .ok (.rt r.1 r.2) B := ex_ret rfl
@[simp] theorem ex_ret_idx  : ex C (.ret (.idx e o)) ρ B = (ev C (.idx e o) true ρ B).bnd fun r B => .ok (.rt r.1 r.2) B := ex_ret rfl
@[simp] theorem ex_ret_slc  : ex C (.ret (.slc e o c)) ρ B = (ev C (.slc e o c) true ρ B).bnd fun r B => .ok (.rt r.1 r.2) B := ex_ret rfl
@[simp] theorem ex_ret_call {f : Nat} : ex C (.ret (.call f e)) ρ B = (ev C (.call f e) true ρ B).bnd fun r B => .ok (.rt r.1 r.2) B := ex_ret rfl
@[simp] theorem ex_ret_bi {b : Bi} : ex C (.ret (.bi b e)) ρ B = (ev C (.bi b e) true ρ B).bnd fun r B => .ok (.rt r.1 r.2) B := ex_ret rfl
@[simp] theorem ex_ret_lc {t : Tg} {own : List Nat} : ex C (.ret (.lc t own e o c)) ρ B = (ev C (.lc t own e o c) true ρ B).bnd fun r B => .ok (.rt r.1 r.2) B := ex_ret rfl
@[simp] theorem ex_ret_heard {f : Nat} {hs : List (Str × Nat)} : ex C (.ret (.heard f hs e)) ρ B = (ev C (.heard f hs e) true ρ B).bnd fun r B => .ok (.rt r.1 r.2) B := ex_ret rfl
@[simp] theorem ex_retN : ex C .retN ρ B = .ok (.rt .none false) B := (rfl)
theorem ex_iff0 : ex C (.iff c s s') ρ B = (ev C c false ρ B).bind fun x B => tst (truth x.1) (ex C s ρ B) (ex C s' ρ B) := by
  rw [ex]; congr 1
@[simp] theorem ex_iff : ex C (.iff c s s') ρ B = (ev C c false ρ B).bnd fun x B => tst (tr x.1) (ex C s ρ B) (ex C s' ρ B) := ex_iff0
theorem ex_for0 {t : Tg} : ex C (.for t e s) ρ B = (ev C e true ρ B).bind fun x B => its (itemsOf x.1) fun xs => forL (turn C t s) xs ρ B := by
  rw [ex]; congr 1; funext x B
  cases itemsOf x.1 with
  | none => rfl
  | some xs =>
    show forL _ _ _ _ = forL _ _ _ _
    congr 1
    funext d ρ B
    unfold turn
    cases bindT t d ρ <;> rfl
@[simp] theorem ex_for {t : Tg} : ex C (.for t e s) ρ B = (ev C e true ρ B).bnd fun x B => its (itemsOf x.1) fun xs => forL (turn C t s) xs ρ B := ex_for0
def evW (C : Cl) (c : E) (ρ : List Sl) (B : Bx) : Out R := ev C c false ρ B
def exW (C : Cl) (s : S) (ρ : List Sl) (B : Bx) : Out Fl := ex C s ρ B
@[simp] theorem ex_while : ex C (.while c s) ρ B = whileL (evW C c) (exW C s) fuelW ρ B := by
  rw [ex]; rfl
@[simp] theorem ex_brk : ex C .brk ρ B = .ok (.bk ρ) B := (rfl)
@[simp] theorem ex_cont : ex C .cont ρ B = .ok (.ct ρ) B := (rfl)
theorem ex_raise0 {k : Nat} : ex C (.raise k e) ρ B = (ev C e true ρ B).bind fun r B => .ex k r.1 B := by rw [ex]
@[simp] theorem ex_raise {k : Nat} : ex C (.raise k e) ρ B = (ev C e true ρ B).bnd fun r B => .ex k r.1 B := ex_raise0
@[simp] theorem ex_frz : ex C (.frz i) ρ B = .ok (.nx (match ρ[i]? with | some (.ow xs) => ρ.set i (.vl (.list xs)) | _ => ρ)) B := by
  rw [ex]; split <;> simp [*]
theorem ex_put0 {ix : E} : ex C (.put i ix e) ρ B = (ev C e true ρ B).bind fun z B => owned ρ[i]? fun xs => (ev C ix true ρ B).bind fun y B => intV y.1 fun n => if 0 ≤ n ∧ n.toNat < xs.length then .ok (.nx (ρ.set i (.ow (xs.set n.toNat z.1)))) B else .bad := by
  rw [ex]; congr 1
@[simp] theorem ex_put {ix : E} : ex C (.put i ix e) ρ B = (ev C e true ρ B).bnd fun z B => owned ρ[i]? fun xs => (ev C ix true ρ B).bnd fun y B => intV y.1 fun n => if 0 ≤ n ∧ n.toNat < xs.length then .ok (.nx (ρ.set i (.ow (xs.set n.toNat z.1)))) B else .bad := ex_put0
def subO (B : Bx) (ρ : List Sl) (z x y : D) : Out Fl := opt (isRef x) fun l => intV y fun i => opt B[l]? fun xs => if 0 ≤ i ∧ i.toNat < xs.length then .ok (.nx ρ) (B.set l (xs.set i.toNat z)) else .bad
theorem ex_sub0 {ix : E} : ex C (.sub o ix e) ρ B = (ev C e true ρ B).bind fun z B => (ev C o true ρ B).bind fun x B => (ev C ix true ρ B).bind fun y B => subO B ρ z.1 x.1 y.1 := by
  rw [ex]; congr 1; funext z B; congr 1; funext x B; congr 1; funext y B
  unfold subO
  cases isRef x.1 with
  | none => cases y.1 <;> rfl
  | some l => cases y.1 <;> try rfl
              rename_i i
              show (match B[l]? with | some xs => _ | none => _) = opt B[l]? _
              cases B[l]? <;> rfl
@[simp] theorem ex_sub {ix : E} : ex C (.sub o ix e) ρ B = (ev C e true ρ B).bnd fun z B => (ev C o true ρ B).bnd fun x B => (ev C ix true ρ B).bnd fun y B => subO B ρ z.1 x.1 y.1 := ex_sub0
end
theorem call_eq {G : List FnD} {f n : Nat} {fd : FnD} {args : List D} {B : Bx} (h : G[f]? = some fd) (hl : args.length = fd.np) : callF G (n + 1) f args B = outR (ex (callF G n) fd.body (slots0 fd args) B) := by
  rw [callF, h]
  exact if_pos hl
@[simp] theorem outR_rt {d : D} {b : Bool} {B : Bx} : outR (.ok (.rt d b) B) = .ok (d, b) B := (rfl)
@[simp] theorem outR_nx {ρ : List Sl} {B : Bx} : outR (.ok (.nx ρ) B) = .ok (.none, false) B := (rfl)
@[simp] theorem W_outR {o : Out Fl} {Q : R → Bx → Prop} {X : Nat → D → Bx → Prop} : W (outR o) Q X = W o (fun f B => match f with | .rt d b => Q (d, b) B | .nx _ => Q (.none, false) B | _ => False) X := by
  unfold W
  cases o with
  | ok f B => cases f <;> rfl
  | _ => rfl
@[simp] theorem W_noEx {α : Type} {o : Out α} {Q : α → Bx → Prop} {X : Nat → D → Bx → Prop} : W (noEx o) Q X = W o Q NoX := by
  unfold W; cases o <;> rfl
@[simp] theorem noEx_ok {α : Type} {a : α} {B : Bx} : noEx (.ok a B) = .ok a B := (rfl)
/-! congruences: what stands behind waits -/
theorem bnd_congr {α β : Type} {o o' : Out α} {f : α → Bx → Out β} (h : o = o') : o.bnd f = o'.bnd f := by rw [h]
theorem tst_congr {α : Type} {o o' : Option Bool} {a b : Out α} (h : o = o') : tst o a b = tst o' a b := by rw [h]
theorem opt_congr {α β : Type} {o o' : Option α} {k : α → Out β} (h : o = o') : opt o k = opt o' k := by rw [h]
theorem its_congr {α : Type} {o o' : Option (List D)} {k : List D → Out α} (h : o = o') : its o k = its o' k := by rw [h]
theorem lst_congr {α : Type} {o o' : D} {k : List D → Out α} (h : o = o') : lst o k = lst o' k := by rw [h]
theorem intV_congr {α : Type} {o o' : D} {k : Int → Out α} (h : o = o') : intV o k = intV o' k := by rw [h]
theorem owned_congr {α : Type} {o o' : Option Sl} {k : List D → Out α} (h : o = o') : owned o k = owned o' k := by rw [h]
theorem nxt_congr {f f' : Fl} {k : List Sl → Out Fl} {B : Bx} (h : f = f') : nxt f k B = nxt f' k B := by rw [h]
/-! loops -/
theorem W_for {α : Type} {e : α → D} {f : D → List Sl → Bx → Out Fl} {Q : Fl → Bx → Prop} {X : Nat → D → Bx → Prop} (I : Nat → List Sl → Bx → Prop) : ∀ {xs : List α} (k : Nat) {ρ : List Sl} {B : Bx}, I k ρ B →
    (∀ i (h : i < xs.length) ρ B, I (k + i) ρ B → W (f (e xs[i]) ρ B) (fun fl B => match fl with | .nx ρ => I (k + i + 1) ρ B | .ct ρ => I (k + i + 1) ρ B | .bk ρ => Q (.nx ρ) B | .rt d b => Q (.rt d b) B) X) →
    (∀ ρ B, I (k + xs.length) ρ B → Q (.nx ρ) B) → W (forL f (xs.map e) ρ B) Q X
  | [], k, ρ, B, h, _, q => by rw [List.map_nil, forL, W_ok]; exact q _ _ h
  | x :: xs, k, ρ, B, h, st, q => by
    rw [List.map_cons, forL, W_bind]
    refine (st 0 (Nat.zero_lt_succ _) ρ B h).mono (fun fl B1 h1 => ?_) (fun _ _ _ z => z)
    have nx : ∀ ρ, I (k + 0 + 1) ρ B1 → W (forL f (xs.map e) ρ B1) Q X := fun ρ h1 => W_for I (k + 1) h1
      (fun i hi ρ B h => by
        have := st (i + 1) (Nat.succ_lt_succ hi) ρ B (by rw [show k + (i + 1) = k + 1 + i by omega]; exact h)
        rw [show k + (i + 1) + 1 = k + 1 + i + 1 by omega] at this
        exact this)
      (fun ρ B h => q ρ B (by rw [List.length_cons, show k + (xs.length + 1) = k + 1 + xs.length by omega]; exact h))
    cases fl with
    | nx ρ => exact nx ρ h1
    | ct ρ => exact nx ρ h1
    | bk ρ => show W (.ok (.nx ρ) B1) Q X; rw [W_ok]; exact h1
    | rt d b => show W (.ok (.rt d b) B1) Q X; rw [W_ok]; exact h1
/-- .. over a range -/
theorem W_forR {f : D → List Sl → Bx → Out Fl} {Q : Fl → Bx → Prop} {X : Nat → D → Bx → Prop} (I : Nat → List Sl → Bx → Prop) {n : Nat} {ρ : List Sl} {B : Bx} (h0 : I 0 ρ B)
    (st : ∀ i (_ : i < n) ρ B, I i ρ B → W (f (.int (i : Int)) ρ B) (fun fl B => match fl with | .nx ρ => I (i + 1) ρ B | .ct ρ => I (i + 1) ρ B | .bk ρ => Q (.nx ρ) B | .rt d b => Q (.rt d b) B) X)
    (q : ∀ ρ B, I n ρ B → Q (.nx ρ) B) : W (forL f ((List.range n).map fun (i : Nat) => .int (i : Int)) ρ B) Q X := by
  refine W_for (e := fun (i : Nat) => .int (i : Int)) I 0 h0 (fun i hi ρ B h => ?_) (fun ρ B h => ?_)
  · rw [List.length_range] at hi
    rw [List.getElem_range, Nat.zero_add] at *
    exact st i hi ρ B h
  · rw [List.length_range, Nat.zero_add] at h
    exact q ρ B h
/-- a comprehension that draws nothing -/
theorem lcL_pure {f : D → Bx → Out (Option D)} {B : Bx} (g : D → Option D) : ∀ {xs : List D}, (∀ x ∈ xs, f x B = .ok (g x) B) → lcL f xs B = .ok (xs.filterMap g) B
  | [], _ => rfl
  | x :: xs, h => by
    rw [lcL, h x List.mem_cons_self]
    have ih := lcL_pure g (xs := xs) fun y hy => h y (List.mem_cons_of_mem _ hy)
    simp only [Out.bind, ih]
    cases e : g x <;> simp [List.filterMap_cons, e]
theorem W_lc {α β : Type} {e : α → D} {u : β → D} {f : D → Bx → Out (Option D)} {B : Bx} {Q : List D → Bx → Prop} {X : Nat → D → Bx → Prop} {xs : List α} (g : α → Option β) (h : ∀ x ∈ xs, f (e x) B = .ok ((g x).map u) B) (q : Q ((xs.filterMap g).map u) B) : W (lcL f (xs.map e) B) Q X := by
  have : lcL f (xs.map e) B = .ok ((xs.filterMap g).map u) B := by
    induction xs with
    | nil => rfl
    | cons x xs ih =>
      rw [List.map_cons, lcL, h x List.mem_cons_self]
      simp only [Out.bind]
      rw [show lcL f (xs.map e) B = .ok ((xs.filterMap g).map u) B from by
        have ih' : ∀ xs : List α, (∀ x ∈ xs, f (e x) B = .ok ((g x).map u) B) → lcL f (xs.map e) B = .ok ((xs.filterMap g).map u) B := by
          intro xs
          induction xs with
          | nil => intro _; rfl
          | cons y ys ihy =>
            intro hy
            rw [List.map_cons, lcL, hy y List.mem_cons_self]
            simp only [Out.bind]
            rw [ihy fun z hz => hy z (List.mem_cons_of_mem _ hz)]
            cases h' : g y <;> simp [List.filterMap_cons, h']
        exact ih' xs fun z hz => h z (List.mem_cons_of_mem _ hz)]
      cases h' : g x <;> simp [List.filterMap_cons, h']
  rw [this, W_ok]
  exact q
/-- .. of every item -/
theorem W_lcm {α : Type} {e u : α → D} {f : D → Bx → Out (Option D)} {B : Bx} {Q : List D → Bx → Prop} {X : Nat → D → Bx → Prop} {xs : List α} (h : ∀ x ∈ xs, f (e x) B = .ok (some (u x)) B) (q : Q (xs.map u) B) : W (lcL f (xs.map e) B) Q X := by
  refine W_lc (u := u) (g := some) (fun x hx => h x hx) ?_
  rw [show xs.filterMap some = xs from List.filterMap_some]
  exact q
/-- .. that keeps some -/
theorem W_lcf {α : Type} {e u : α → D} {f : D → Bx → Out (Option D)} {B : Bx} {Q : List D → Bx → Prop} {X : Nat → D → Bx → Prop} {xs : List α} (p : α → Bool) (h : ∀ x ∈ xs, f (e x) B = .ok (if p x = true then some (u x) else none) B) (q : Q ((xs.filter p).map u) B) : W (lcL f (xs.map e) B) Q X := by
  refine W_lc (u := u) (g := fun x => if p x = true then some x else none) (fun x hx => by rw [h x hx]; cases p x <;> rfl) ?_
  have : ∀ xs : List α, xs.filterMap (fun x => if p x = true then some x else none) = xs.filter p := by
    intro xs
    induction xs with
    | nil => rfl
    | cons x xs ih =>
      rw [List.filterMap_cons, List.filter_cons]
      cases h : p x <;> simp [ih]
  rw [this]
  exact q
/-- a comprehension that draws -/
theorem W_lcd {α : Type} {e : α → D} {f : D → Bx → Out (Option D)} {Q : List D → Bx → Prop} {X : Nat → D → Bx → Prop} (I : List D → Bx → Prop) : ∀ {xs : List α} {B : Bx}, I [] B →
    (∀ (k : Nat) (hk : k < xs.length) ys B, ys.length = k → I ys B → W (f (e xs[k]) B) (fun o B => ∃ y, o = some y ∧ I (ys ++ [y]) B) X) →
    (∀ ys B, ys.length = xs.length → I ys B → Q ys B) → W (lcL f (xs.map e) B) Q X := by
  intro xs
  induction xs generalizing I Q with
  | nil => intro B h _ q; rw [List.map_nil, lcL, W_ok]; exact q _ _ rfl h
  | cons x xs ih =>
    intro B h st q
    rw [List.map_cons, lcL, W_bind]
    refine (st 0 (Nat.zero_lt_succ _) [] B rfl h).mono (fun o B1 h1 => ?_) (fun _ _ _ z => z)
    obtain ⟨y, rfl, h1⟩ := h1
    rw [W_bind]
    refine ih (Q := fun ys B => W (.ok (y :: ys) B) Q X) (fun ys B => I (y :: ys) B) h1 ?_ ?_
    · intro k hk ys B hl hi
      exact st (k + 1) (Nat.succ_lt_succ hk) (y :: ys) B (by rw [List.length_cons, hl]) hi
    · intro ys B hl hi
      show W (.ok (y :: ys) B) Q X
      rw [W_ok]
      exact q (y :: ys) B (by rw [List.length_cons, List.length_cons, hl]) hi
end Pv
end
section
set_option linter.all false
set_option maxRecDepth 100000
namespace Pv
open PySem PySem.W
/-! M2: facts about data -/
theorem mulOk_r {a b : Int} (h1 : -(2 ^ 64) < b) (h2 : b < 2 ^ 64) : mulOk a b = true := by unfold mulOk; simp only [decide_eq_true h1, decide_eq_true h2, Bool.and_self, Bool.or_true, Bool.true_or]
theorem mulOk_l {a b : Int} (h1 : -(2 ^ 64) < a) (h2 : a < 2 ^ 64) : mulOk a b = true := by unfold mulOk; simp only [decide_eq_true h1, decide_eq_true h2, Bool.and_self, Bool.or_true, Bool.true_or]
theorem mulOk_w {a b : Int} (h1 : a.natAbs < 2 ^ 4096) (h2 : b.natAbs < 2 ^ 4096) : mulOk a b = true := by unfold mulOk; simp only [decide_eq_true h1, decide_eq_true h2, Bool.and_self, Bool.or_true]
def wholeP : D → Int → Int → Bool
  | .int i, lo, hi => decide (lo ≤ i) && decide (i ≤ hi)
  | _, _, _ => false
@[simp] theorem wholeP_int {i lo hi : Int} : wholeP (.int i) lo hi = (decide (lo ≤ i) && decide (i ≤ hi)) := (rfl)
def nd : D → Bool
  | .dict _ => false
  | _ => true
theorem nd_plain {d : D} (h : d.plain = true) : nd d = true := by cases d <;> first | rfl | (simp [PyData.plain] at h)
@[simp] theorem ofString_inj {a b : String} : (Str.ofString a = Str.ofString b) ↔ a = b := by
  constructor
  · intro h
    rw [Str.ofString_eq_toList, Str.ofString_eq_toList] at h
    have h1 := congrArg (fun s => s.cps.toList) h
    simp only at h1
    have h2 : ∀ (xs ys : List Char), xs.map Char.toNat = ys.map Char.toNat → xs = ys := by
      intro xs
      induction xs with
      | nil => intro ys h; cases ys <;> simp at h ⊢
      | cons x xs ih =>
        intro ys h
        cases ys with
        | nil => simp at h
        | cons y ys =>
          rw [List.map_cons, List.map_cons, List.cons.injEq] at h
          rw [ih ys h.2, show x = y from Char.ext (UInt32.toNat_inj.mp h.1)]
    have := h2 _ _ h1
    rw [← String.ofList_toList (s := a), ← String.ofList_toList (s := b), this]
  · intro h; rw [h]
theorem eqD_of {a b : D} (ha : a.plain = true) (hb : b.plain = true) (hd : min a.depth b.depth ≤ 64) : eqD a b = some (PyData.eqv a b) := by
  unfold eqD
  rw [if_pos]
  simp only [Bool.and_eq_true, decide_eq_true_eq]
  exact ⟨⟨ha, hb⟩, hd⟩
@[simp] theorem eqD_int {a b : Int} : eqD (.int a) (.int b) = some (decide (a = b)) := by
  rw [eqD_of rfl rfl (by simp [PyData.depth]), PyData.eqv, beq_decide]
@[simp] theorem eqD_str {a b : Str} : eqD (.str a) (.str b) = some (decide (a = b)) := by
  rw [eqD_of rfl rfl (by simp [PyData.depth]), PyData.eqv, beq_decide]
theorem eqD_d {α : Type} [DecidableEq α] [Datum α] {x y : α} (h : Datum.depth α ≤ 64) : eqD (Datum.toD x) (Datum.toD y) = some (decide (x = y)) := by
  rw [eqD_of (Datum.plain x) (Datum.plain y) (Nat.le_trans (Nat.min_le_left _ _) (Nat.le_trans (Datum.depth_le x) h)), Datum.eqv]
theorem eqD_nilL {xs : List D} (h : PyData.plainAll xs = true) : eqD (.list xs) (.list []) = some xs.isEmpty := by
  rw [eqD_of (by simpa [PyData.plain] using h) (by simp [PyData.plain, PyData.plainAll]) (by simp [PyData.depth, PyData.depthAll]), PyData.eqv]
  cases xs <;> simp [PyData.eqvAll]
theorem eqD_nilT {xs : List D} (h : PyData.plainAll xs = true) : eqD (.tuple xs) (.tuple []) = some xs.isEmpty := by
  rw [eqD_of (by simpa [PyData.plain] using h) (by simp [PyData.plain, PyData.plainAll]) (by simp [PyData.depth, PyData.depthAll]), PyData.eqv]
  cases xs <;> simp [PyData.eqvAll]
@[simp] theorem eqD_nn : eqD (.list []) (.list []) = some true := eqD_nilL rfl
@[simp] theorem eqD_nt : eqD (.tuple []) (.tuple []) = some true := eqD_nilT rfl
@[simp] theorem intsOf_map (xs : List Int) : intsOf (xs.map .int) = some xs := by
  induction xs with
  | nil => rfl
  | cons x xs ih => rw [List.map_cons, intsOf, ih]; rfl
@[simp] theorem tupsLt_map (xs ys : List Int) : tupsLt (xs.map .int) (ys.map .int) = some (lexLt xs ys) := by
  unfold tupsLt; rw [intsOf_map, intsOf_map]
@[simp] theorem plainAll_ints (xs : List Int) : PyData.plainAll (xs.map .int) = true := by
  induction xs with
  | nil => rfl
  | cons x xs ih => rw [List.map_cons, PyData.plainAll, ih]; rfl
theorem plainAll_iff {xs : List D} : PyData.plainAll xs = true ↔ ∀ x ∈ xs, x.plain = true := by
  induction xs with
  | nil => simp [PyData.plainAll]
  | cons x xs ih => rw [PyData.plainAll, Bool.and_eq_true, ih]; simp
theorem plainAll_map' {α : Type} {e : α → D} {xs : List α} (h : ∀ x ∈ xs, (e x).plain = true) : PyData.plainAll (xs.map e) = true := by
  rw [plainAll_iff]; intro x hx; obtain ⟨y, hy, rfl⟩ := List.mem_map.mp hx; exact h y hy
@[simp] theorem boolsOf_map (xs : List Bool) : boolsOf (xs.map .bool) = some xs := by
  induction xs with
  | nil => rfl
  | cons x xs ih => rw [List.map_cons, boolsOf, ih]; rfl
@[simp] theorem anyEqv_ints (xs : List Int) (p : Int) : anyEqv (xs.map .int) (.int p) = decide (p ∈ xs) := by
  unfold anyEqv
  induction xs with
  | nil => simp
  | cons x xs ih =>
    rw [List.map_cons, List.any_cons, ih]
    simp only [PyData.eqv, List.mem_cons]
    by_cases h : x = p
    · simp [h]
    · have h' : ¬ p = x := fun e => h e.symm
      simp [h, h']
@[simp] theorem inD_ints (xs : List Int) (p : Int) : inD (.int p) (.tuple (xs.map .int)) = some (decide (p ∈ xs)) := by
  unfold inD
  simp only [itemsOf, plainAll_ints, PyData.plain, PyData.depth]
  simp
@[simp] theorem inD_intsL (xs : List Int) (p : Int) : inD (.int p) (.list (xs.map .int)) = some (decide (p ∈ xs)) := by
  unfold inD
  simp only [itemsOf, plainAll_ints, PyData.plain, PyData.depth]
  simp
theorem atIx_map {α β : Type} {e : α → β} {xs : List α} {i : Int} : atIx (xs.map e) i = (atIx xs i).map e := by
  unfold atIx
  rw [List.length_map]
  cases ixN' xs.length i <;> simp
theorem atIx_nn {α : Type} {xs : List α} {i : Int} (h1 : 0 ≤ i) (h2 : i < xs.length) : atIx xs i = some (xs[i.toNat]'(by omega)) := by
  unfold atIx ixN'
  rw [if_pos h1, if_pos h2]
  simp
theorem atIx_nn' {α : Type} {xs : List α} {i : Int} (h1 : 0 ≤ i) : atIx xs i = xs[i.toNat]? := by
  by_cases h2 : i < xs.length
  · rw [atIx_nn h1 h2, List.getElem?_eq_getElem]
  · unfold atIx ixN'
    rw [if_pos h1, if_neg h2, List.getElem?_eq_none (by omega)]
    rfl
theorem atIx_nat {α : Type} {xs : List α} {i : Nat} (h2 : i < xs.length) : atIx xs (i : Int) = some xs[i] := atIx_nn (by omega) (by omega)
@[simp] theorem atIx_last {α : Type} {xs : List α} : atIx xs (-1) = xs.getLast? := by
  unfold atIx ixN'
  rw [if_neg (by decide)]
  cases xs with
  | nil => simp
  | cons x xs =>
    rw [if_pos (by simp only [List.length_cons]; omega), List.getLast?_eq_getElem?]
    simp only [Option.bind_some, List.length_cons]
    congr 1
    omega
@[simp] theorem atIx_c0 {α : Type} {x : α} {xs : List α} : atIx (x :: xs) 0 = some x := by
  unfold atIx ixN'
  rw [if_pos (by decide), if_pos (by simp only [List.length_cons]; omega)]
  rfl
@[simp] theorem atIx_c1 {α : Type} {x y : α} {xs : List α} : atIx (x :: y :: xs) 1 = some y := by
  unfold atIx ixN'
  rw [if_pos (by decide), if_pos (by simp only [List.length_cons]; omega)]
  rfl
@[simp] theorem atIx_c2 {α : Type} {x y z : α} {xs : List α} : atIx (x :: y :: z :: xs) 2 = some z := by
  unfold atIx ixN'
  rw [if_pos (by decide), if_pos (by simp only [List.length_cons]; omega)]
  rfl
theorem rng_some {b : Nat} (hb : b ≤ 16777216) : rng2 0 (b : Int) = some (rngL 0 b) := by
  unfold rng2
  rw [if_pos (by omega)]
theorem rngL_nat {b : Nat} : rngL 0 (b : Int) = (List.range b).map fun (i : Nat) => .int (i : Int) := by
  unfold rngL
  rw [show ((b : Int) - 0).toNat = b by omega]
  congr 1
  funext i
  rw [Int.zero_add]
theorem rng2_nat {b : Nat} (hb : b ≤ 16777216) : rng2 0 (b : Int) = some ((List.range b).map fun (i : Nat) => .int (i : Int)) := by rw [rng_some hb, rngL_nat]
theorem rng2_ints {b : Nat} (hb : b ≤ 16777216) : rng2 0 (b : Int) = some (((List.range b).map fun (i : Nat) => (i : Int)).map .int) := by rw [rng2_nat hb, List.map_map]; rfl
theorem rngX_nat {b : Nat} (hb : b ≤ 16777216) : rngX [.int (b : Int)] = some ((List.range b).map fun (i : Nat) => .int (i : Int)) := by
  unfold rngX
  show rng2 0 (b : Int) = _
  exact rng2_nat hb
theorem enumL_map {α : Type} {e : α → D} : ∀ {xs : List α} {k : Nat}, enumL k (xs.map e) = (xs.zipIdx k).map fun p => .tuple [.int (p.2 : Int), e p.1]
  | [], _ => rfl
  | x :: xs, k => by rw [List.map_cons, enumL, enumL_map, List.zipIdx_cons, List.map_cons]
theorem enumL_range : ∀ {xs : List D} {k : Nat}, enumL k xs = (List.range xs.length).map fun i => .tuple [.int ((k + i : Nat) : Int), xs.getD i .none]
  | [], _ => rfl
  | x :: xs, k => by
    rw [enumL, enumL_range, List.length_cons, List.range_succ_eq_map, List.map_cons, List.map_map]
    congr 1
    apply List.map_congr_left
    intro i _
    simp only [Function.comp, List.getD_cons_succ]
    rw [show k + 1 + i = k + (i + 1) by omega]
theorem sIx_hi {n : Nat} {i : Int} (h : 0 ≤ i) : sIx' n n (some i) = min i.toNat n := by
  unfold sIx'; simp only; rw [if_neg (by omega)]
theorem cut_take {α : Type} {xs : List α} {i : Int} (h : 0 ≤ i) : cut xs none (some i) = xs.take i.toNat := by
  unfold cut
  rw [sIx_hi h]
  simp only [sIx', List.drop_zero, Nat.sub_zero]
  by_cases h' : i.toNat ≤ xs.length
  · rw [Nat.min_eq_left h']
  · rw [Nat.min_eq_right (by omega), List.take_of_length_le (by omega), List.take_of_length_le (by omega)]
theorem cut_drop {α : Type} {xs : List α} {i : Int} (h : 0 ≤ i) : cut xs (some i) none = xs.drop i.toNat := by
  unfold cut sIx'
  simp only
  rw [if_neg (by omega)]
  by_cases h' : i.toNat ≤ xs.length
  · rw [Nat.min_eq_left h', List.take_of_length_le (by simp)]
  · rw [Nat.min_eq_right (by omega), List.drop_eq_nil_of_le (Nat.le_refl _), List.drop_eq_nil_of_le (show xs.length ≤ i.toNat by omega)]; simp
mutual
/-- how many things a thing holds, itself too -/
def nodes : D → Nat
  | .none | .bool _ | .int _ | .str _ | .dict _ => 1
  | .list xs => nodesL xs + 1
  | .tuple xs => nodesL xs + 1
def nodesL : List D → Nat
  | [] => 0
  | x :: xs => nodes x + nodesL xs
end
theorem nodes_pos (d : D) : 1 ≤ nodes d := by cases d <;> simp [nodes]
theorem nodesL_len : ∀ xs : List D, xs.length ≤ nodesL xs
  | [] => Nat.le_refl _
  | x :: xs => by rw [nodesL, List.length_cons]; have := nodesL_len xs; have := nodes_pos x; omega
theorem nodesL_mem : ∀ {xs : List D} {x : D}, x ∈ xs → nodes x ≤ nodesL xs
  | y :: ys, x, h => by
    rw [nodesL]
    rcases List.mem_cons.mp h with rfl | h
    · omega
    · have := nodesL_mem h; omega
theorem nodesL_append : ∀ {xs ys : List D}, nodesL (xs ++ ys) = nodesL xs + nodesL ys
  | [], _ => by rw [List.nil_append, nodesL, Nat.zero_add]
  | x :: xs, ys => by rw [List.cons_append, nodesL, nodesL, nodesL_append, Nat.add_assoc]
theorem nodesL_le {k : Nat} : ∀ {xs : List D}, (∀ x ∈ xs, nodes x ≤ k) → nodesL xs ≤ xs.length * k
  | [], _ => by simp [nodesL]
  | x :: xs, h => by
    rw [nodesL, List.length_cons, Nat.add_mul, Nat.one_mul]
    have := h x List.mem_cons_self
    have := nodesL_le (xs := xs) fun y hy => h y (List.mem_cons_of_mem _ hy)
    omega
end Pv
end
section
set_option linter.all false
set_option maxRecDepth 100000
namespace Pv
open PySem PySem.W
/-! M2b: operations by the heads of their data -/
/-- no list within the boxes -/
def nlB (B : Bx) : Bool := B.all noLs
@[simp] theorem m_bi_len {B : Bx} {ds : List D} : biD B .len ds = lenD B ds := (rfl)
@[simp] theorem m_bi_int {B : Bx} {ds : List D} : biD B .int ds = intD ds := (rfl)
@[simp] theorem m_bi_max2 {B : Bx} {ds : List D} : biD B .max2 ds = maxD ds := (rfl)
@[simp] theorem m_bi_min2 {B : Bx} {ds : List D} : biD B .min2 ds = minD ds := (rfl)
@[simp] theorem m_bi_list {B : Bx} {ds : List D} : biD B .list ds = listD ds := (rfl)
@[simp] theorem m_bi_listR {B : Bx} {ds : List D} : biD B .listR ds = listRD ds := (rfl)
@[simp] theorem m_bi_tuple {B : Bx} {ds : List D} : biD B .tuple ds = tupleD ds := (rfl)
@[simp] theorem m_bi_tupleR {B : Bx} {ds : List D} : biD B .tupleR ds = tupleRD ds := (rfl)
@[simp] theorem m_bi_sorted {B : Bx} {ds : List D} : biD B .sorted ds = sortedD ds := (rfl)
@[simp] theorem m_bi_sum {B : Bx} {ds : List D} : biD B .sum ds = sumD ds := (rfl)
@[simp] theorem m_bi_all {B : Bx} {ds : List D} : biD B .all ds = allD ds := (rfl)
@[simp] theorem m_bi_any {B : Bx} {ds : List D} : biD B .any ds = anyD ds := (rfl)
@[simp] theorem m_bi_isI {B : Bx} {t : Ty} {d : D} : biD B (.isI t) [d] = (isTy t d).map fun b => (.bool b, false) := (rfl)
@[simp] theorem isTy_int_none  : isTy .int .none = some false := (rfl)
@[simp] theorem isTy_int_bool {b : Bool} : isTy .int (.bool b) = some true := (rfl)
@[simp] theorem isTy_int_int {i : Int} : isTy .int (.int i) = some true := (rfl)
@[simp] theorem isTy_int_str {x : Str} : isTy .int (.str x) = some false := (rfl)
@[simp] theorem isTy_int_list {xs : List D} : isTy .int (.list xs) = some false := (rfl)
@[simp] theorem isTy_int_tuple {xs : List D} : isTy .int (.tuple xs) = some false := (rfl)
@[simp] theorem isTy_bool_none  : isTy .bool .none = some false := (rfl)
@[simp] theorem isTy_bool_bool {b : Bool} : isTy .bool (.bool b) = some true := (rfl)
@[simp] theorem isTy_bool_int {i : Int} : isTy .bool (.int i) = some false := (rfl)
@[simp] theorem isTy_bool_str {x : Str} : isTy .bool (.str x) = some false := (rfl)
@[simp] theorem isTy_bool_list {xs : List D} : isTy .bool (.list xs) = some false := (rfl)
@[simp] theorem isTy_bool_tuple {xs : List D} : isTy .bool (.tuple xs) = some false := (rfl)
@[simp] theorem isTy_str_none  : isTy .str .none = some false := (rfl)
@[simp] theorem isTy_str_bool {b : Bool} : isTy .str (.bool b) = some false := (rfl)
@[simp] theorem isTy_str_int {i : Int} : isTy .str (.int i) = some false := (rfl)
@[simp] theorem isTy_str_str {x : Str} : isTy .str (.str x) = some true := (rfl)
@[simp] theorem isTy_str_list {xs : List D} : isTy .str (.list xs) = some false := (rfl)
@[simp] theorem isTy_str_tuple {xs : List D} : isTy .str (.tuple xs) = some false := (rfl)
@[simp] theorem isTy_tuple_none  : isTy .tuple .none = some false := (rfl)
@[simp] theorem isTy_tuple_bool {b : Bool} : isTy .tuple (.bool b) = some false := (rfl)
@[simp] theorem isTy_tuple_int {i : Int} : isTy .tuple (.int i) = some false := (rfl)
@[simp] theorem isTy_tuple_str {x : Str} : isTy .tuple (.str x) = some false := (rfl)
@[simp] theorem isTy_tuple_list {xs : List D} : isTy .tuple (.list xs) = some false := (rfl)
@[simp] theorem isTy_tuple_tuple {xs : List D} : isTy .tuple (.tuple xs) = some true := (rfl)
@[simp] theorem isTy_list_none  : isTy .list .none = some false := (rfl)
@[simp] theorem isTy_list_bool {b : Bool} : isTy .list (.bool b) = some false := (rfl)
@[simp] theorem isTy_list_int {i : Int} : isTy .list (.int i) = some false := (rfl)
@[simp] theorem isTy_list_str {x : Str} : isTy .list (.str x) = some false := (rfl)
@[simp] theorem isTy_list_list {xs : List D} : isTy .list (.list xs) = some true := (rfl)
@[simp] theorem isTy_list_tuple {xs : List D} : isTy .list (.tuple xs) = some false := (rfl)
@[simp] theorem lenD_list {B : Bx} {xs : List D} : lenD B [.list xs] = some (.int xs.length, false) := (rfl)
@[simp] theorem lenD_tuple {B : Bx} {xs : List D} : lenD B [.tuple xs] = some (.int xs.length, false) := (rfl)
@[simp] theorem intD_int {i : Int} : intD [.int i] = some (.int i, false) := (rfl)
@[simp] theorem maxD_int {a b : Int} : maxD [.int a, .int b] = some (.int (if b > a then b else a), false) := (rfl)
@[simp] theorem minD_int {a b : Int} : minD [.int a, .int b] = some (.int (if b < a then b else a), false) := (rfl)
@[simp] theorem listD_list {xs : List D} : listD [.list xs] = some (.list xs, true) := (rfl)
@[simp] theorem listRD_list {xs : List D} : listRD [.list xs] = some (.list xs, true) := (rfl)
@[simp] theorem listD_tuple {xs : List D} : listD [.tuple xs] = some (.list xs, true) := (rfl)
@[simp] theorem tupleD_list {xs : List D} : tupleD [.list xs] = some (.tuple xs, false) := (rfl)
@[simp] theorem tupleRD_list {xs : List D} : tupleRD [.list xs] = some (.tuple xs, false) := (rfl)
@[simp] theorem tupleD_tuple {xs : List D} : tupleD [.tuple xs] = some (.tuple xs, false) := (rfl)
@[simp] theorem sumD_list {xs : List D} : sumD [.list xs] = (intsOf xs).map fun ns => (.int ns.sum, false) := (rfl)
@[simp] theorem allD_list {xs : List D} : allD [.list xs] = (boolsOf xs).map fun bs => (.bool (bs.all id), false) := (rfl)
@[simp] theorem anyD_list {xs : List D} : anyD [.list xs] = (boolsOf xs).map fun bs => (.bool (bs.any id), false) := (rfl)
@[simp] theorem cmp_Eq {a b : D} : cmpD .Eq a b = eqD a b := (rfl)
@[simp] theorem cmp_NotEq {a b : D} : cmpD .NotEq a b = (eqD a b).map (!·) := (rfl)
@[simp] theorem cmp_Lt {a b : D} : cmpD .Lt a b = ltD a b := (rfl)
@[simp] theorem cmp_LtE {a b : D} : cmpD .LtE a b = leD a b := (rfl)
@[simp] theorem cmp_Gt {a b : D} : cmpD .Gt a b = gtD a b := (rfl)
@[simp] theorem cmp_GtE {a b : D} : cmpD .GtE a b = geD a b := (rfl)
@[simp] theorem cmp_In {a b : D} : cmpD .In a b = inD a b := (rfl)
@[simp] theorem cmp_NotIn {a b : D} : cmpD .NotIn a b = (inD a b).map (!·) := (rfl)
@[simp] theorem cmp_Is {a b : D} : cmpD .Is a b = isD a b := (rfl)
@[simp] theorem cmp_IsNot {a b : D} : cmpD .IsNot a b = (isD a b).map (!·) := (rfl)
@[simp] theorem ltD_int {a b : Int} : ltD (.int a) (.int b) = some (decide (a < b)) := (rfl)
@[simp] theorem leD_int {a b : Int} : leD (.int a) (.int b) = some (decide (a ≤ b)) := (rfl)
@[simp] theorem gtD_int {a b : Int} : gtD (.int a) (.int b) = some (decide (b < a)) := (rfl)
@[simp] theorem geD_int {a b : Int} : geD (.int a) (.int b) = some (decide (b ≤ a)) := (rfl)
@[simp] theorem ltD_tuple {a b : List D} : ltD (.tuple a) (.tuple b) = tupsLt a b := (rfl)
@[simp] theorem leD_tuple {a b : List D} : leD (.tuple a) (.tuple b) = (tupsLt b a).map (!·) := (rfl)
@[simp] theorem isD_none {a : D} : isD a .none = some (isNone a) := (rfl)
@[simp] theorem isNone_none  : isNone .none = true := (rfl)
@[simp] theorem isNone_bool {b : Bool} : isNone (.bool b) = false := (rfl)
@[simp] theorem isNone_int {i : Int} : isNone (.int i) = false := (rfl)
@[simp] theorem isNone_str {x : Str} : isNone (.str x) = false := (rfl)
@[simp] theorem isNone_list {xs : List D} : isNone (.list xs) = false := (rfl)
@[simp] theorem isNone_tuple {xs : List D} : isNone (.tuple xs) = false := (rfl)
@[simp] theorem negD_int {i : Int} : negD (.int i) = some (.int (-i)) := (rfl)
@[simp] theorem add_int {a b : Int} : binD .Add (.int a) (.int b) = some (.int (a + b), false) := (rfl)
@[simp] theorem sub_int {a b : Int} : binD .Sub (.int a) (.int b) = some (.int (a - b), false) := (rfl)
@[simp] theorem add_str {a b : Str} : binD .Add (.str a) (.str b) = if a.length + b.length ≤ 16777216 then some (.str (a ++ b), false) else none := (rfl)
@[simp] theorem add_tuple {a b : List D} : binD .Add (.tuple a) (.tuple b) = if a.length + b.length ≤ 16777216 then some (.tuple (a ++ b), false) else none := (rfl)
@[simp] theorem add_list {a b : List D} : binD .Add (.list a) (.list b) = if a.length + b.length ≤ 16777216 then some (.list (a ++ b), true) else none := (rfl)
@[simp] theorem mul_int {a b : Int} : binD .Mult (.int a) (.int b) = if mulOk a b then some (.int (a * b), false) else none := (rfl)
@[simp] theorem mul_list {a : List D} {b : Int} : binD .Mult (.list a) (.int b) = if -1000 ≤ b ∧ b ≤ 1000 ∧ a.length ≤ 1000 then some (.list ((List.replicate b.toNat a).flatten), true) else none := (rfl)
@[simp] theorem mul_tuple {a : List D} {b : Int} : binD .Mult (.tuple a) (.int b) = if -1000 ≤ b ∧ b ≤ 1000 ∧ a.length ≤ 1000 then some (.tuple ((List.replicate b.toNat a).flatten), false) else none := (rfl)
@[simp] theorem div_int {a b : Int} : binD .FloorDiv (.int a) (.int b) = if b ≠ 0 ∧ b.natAbs < 1073741824 then some (.int (a.fdiv b), false) else none := (rfl)
@[simp] theorem mod_int {a b : Int} : binD .Mod (.int a) (.int b) = if b ≠ 0 then some (.int (a.fmod b), false) else none := (rfl)
@[simp] theorem pow_int {a b : Int} : binD .Pow (.int a) (.int b) = if 0 ≤ b ∧ b ≤ 1000000 ∧ a.natAbs < 2 ^ 64 then some (.int (a ^ b.toNat), false) else none := (rfl)
@[simp] theorem items_list {xs : List D} : itemsOf (.list xs) = some xs := (rfl)
@[simp] theorem items_tuple {xs : List D} : itemsOf (.tuple xs) = some xs := (rfl)
@[simp] theorem idx_list {B : Bx} {xs : List D} {i : Int} : idxD B (.list xs) (.int i) = atIx xs i := (rfl)
@[simp] theorem idx_tuple {B : Bx} {xs : List D} {i : Int} : idxD B (.tuple xs) (.int i) = atIx xs i := (rfl)
@[simp] theorem idx_ref {B : Bx} {i : Int} : idxD B (bref 0) (.int i) = (match B[0]? with | some xs => atIx xs i | none => none) := (rfl)
@[simp] theorem isRef_bref {l : Nat} : isRef (bref l) = some l := (rfl)
@[simp] theorem slc_list {xs : List D} {a b : Option Int} : slcP (.list xs) a b = some (.list (cut xs a b), true) := (rfl)
@[simp] theorem slc_tuple {xs : List D} {a b : Option Int} : slcP (.tuple xs) a b = some (.tuple (cut xs a b), false) := (rfl)
@[simp] theorem slot_f {r : R} {B : Bx} : slotOf false r B = .vl r.1 := by obtain ⟨d, b⟩ := r; cases d <;> cases b <;> rfl
@[simp] theorem slot_tt {xs : List D} {B : Bx} : slotOf true (.list xs, true) B = if nlB B then .ow xs else .vl (.list xs) := (rfl)
@[simp] theorem slot_tf {d : D} {B : Bx} : slotOf true (d, false) B = .vl d := by cases d <;> rfl
@[simp] theorem m_bindT_n {i : Nat} {d : D} {ρ : List Sl} : bindT (.n i) d ρ = some (ρ.set i (.vl d)) := by rw [bindT]
@[simp] theorem m_bindT_tp {l : Tg} {ds : List D} {ρ : List Sl} : bindT (.tp l) (.tuple ds) ρ = bindT l (.list ds) ρ := by rw [bindT]
@[simp] theorem m_bindT_nil {ρ : List Sl} : bindT .nil (.list []) ρ = some ρ := by rw [bindT]
@[simp] theorem m_bindT_cons {a r : Tg} {d : D} {ds : List D} {ρ : List Sl} : bindT (.cons a r) (.list (d :: ds)) ρ = (bindT a d ρ).bind fun ρ => bindT r (.list ds) ρ := by rw [bindT]
@[simp] theorem wipe_nil {ρ : List Sl} : wipeS ρ [] = ρ := (rfl)
@[simp] theorem wipe_cons {ρ : List Sl} {i : Nat} {r : List Nat} : wipeS ρ (i :: r) = (wipeS ρ r).set i .un := (rfl)
@[simp] theorem partE_none {d : D} : partE (.k .none) d = some none := by cases d <;> rfl
@[simp] theorem partE_k {i : Int} {j : Int} : partE (.k (.int j)) (.int i) = some (some i) := (rfl)
@[simp] theorem partE_v {i : Int} {j : Nat} : partE (.v j) (.int i) = some (some i) := (rfl)
@[simp] theorem partE_neg {i : Int} {a : E} : partE (.neg a) (.int i) = some (some i) := (rfl)
@[simp] theorem partE_bin {i : Int} {o : Operator} {a b : E} : partE (.bin o a b) (.int i) = some (some i) := (rfl)
@[simp] theorem partE_bi {i : Int} {o : Bi} {a : E} : partE (.bi o a) (.int i) = some (some i) := (rfl)
@[simp] theorem partE_call {i : Int} {f : Nat} {a : E} : partE (.call f a) (.int i) = some (some i) := (rfl)
@[simp] theorem partE_g {i : Int} {x : Str} {d : D} : partE (.g x d) (.int i) = some (some i) := (rfl)
@[simp] theorem partE_idx {i : Int} {a b : E} : partE (.idx a b) (.int i) = some (some i) := (rfl)
@[simp] theorem rngD_1 {b : Int} : rngD [.int b] = rng2 0 b := (rfl)
@[simp] theorem rngD_2 {a b : Int} : rngD [.int a, .int b] = rng2 a b := (rfl)
@[simp] theorem lentOut_ok {r : R} {B : Bx} : lentOut (.ok r B) = if noL r.1 && nlB B then .ok (r.1, false) B else .bad := (rfl)
@[simp] theorem lentOut_ex {c : Nat} {w : D} {B : Bx} : lentOut (.ex c w B) = if noL w && nlB B then .ex c w B else .bad := (rfl)
@[simp] theorem lent_nil {ρ : List Sl} : lent ρ .nil = false := (rfl)
@[simp] theorem lent_k {ρ : List Sl} {r : E} {d : D} : lent ρ (.cons (.k d) r) = lent ρ r := (rfl)
@[simp] theorem lent_g {ρ : List Sl} {r : E} {x : Str} {d : D} : lent ρ (.cons (.g x d) r) = lent ρ r := (rfl)
@[simp] theorem lent_neg {ρ : List Sl} {r : E} {a : E} : lent ρ (.cons (.neg a) r) = lent ρ r := (rfl)
@[simp] theorem lent_not {ρ : List Sl} {r : E} {a : E} : lent ρ (.cons (.not a) r) = lent ρ r := (rfl)
@[simp] theorem lent_bin {ρ : List Sl} {r : E} {o : Operator} {a b : E} : lent ρ (.cons (.bin o a b) r) = lent ρ r := (rfl)
@[simp] theorem lent_cmp {ρ : List Sl} {r : E} {o : CmpOp} {a b : E} : lent ρ (.cons (.cmp o a b) r) = lent ρ r := (rfl)
@[simp] theorem lent_cmp2 {ρ : List Sl} {r : E} {o p : CmpOp} {a b c : E} : lent ρ (.cons (.cmp2 o p a b c) r) = lent ρ r := (rfl)
@[simp] theorem lent_and {ρ : List Sl} {r : E} {a b : E} : lent ρ (.cons (.and a b) r) = lent ρ r := (rfl)
@[simp] theorem lent_or {ρ : List Sl} {r : E} {a b : E} : lent ρ (.cons (.or a b) r) = lent ρ r := (rfl)
@[simp] theorem lent_ite {ρ : List Sl} {r : E} {a b c : E} : lent ρ (.cons (.ite c a b) r) = lent ρ r := (rfl)
@[simp] theorem lent_tup {ρ : List Sl} {r : E} {a : E} : lent ρ (.cons (.tup a) r) = lent ρ r := (rfl)
@[simp] theorem lent_lst {ρ : List Sl} {r : E} {a : E} : lent ρ (.cons (.lst a) r) = lent ρ r := (rfl)
@[simp] theorem lent_box {ρ : List Sl} {r : E} {a : E} : lent ρ (.cons (.box a) r) = lent ρ r := (rfl)
@[simp] theorem lent_idx {ρ : List Sl} {r : E} {a b : E} : lent ρ (.cons (.idx a b) r) = lent ρ r := (rfl)
@[simp] theorem lent_slc {ρ : List Sl} {r : E} {a b c : E} : lent ρ (.cons (.slc a b c) r) = lent ρ r := (rfl)
@[simp] theorem lent_call {ρ : List Sl} {r : E} {f : Nat} {a : E} : lent ρ (.cons (.call f a) r) = lent ρ r := (rfl)
@[simp] theorem lent_bi {ρ : List Sl} {r : E} {b : Bi} {a : E} : lent ρ (.cons (.bi b a) r) = lent ρ r := (rfl)
@[simp] theorem lent_rng {ρ : List Sl} {r : E} {a : E} : lent ρ (.cons (.rng a) r) = lent ρ r := (rfl)
@[simp] theorem lent_lc {ρ : List Sl} {r : E} {t : Tg} {o : List Nat} {a b c : E} : lent ρ (.cons (.lc t o a b c) r) = lent ρ r := (rfl)
@[simp] theorem lent_heard {ρ : List Sl} {r : E} {f : Nat} {hs : List (Str × Nat)} {a : E} : lent ρ (.cons (.heard f hs a) r) = lent ρ r := (rfl)
def isOw : Option Sl → Bool
  | some (.ow _) => true
  | _ => false
@[simp] theorem isOw_vl {d : D} : isOw (some (.vl d)) = false := (rfl)
@[simp] theorem isOw_ow {xs : List D} : isOw (some (.ow xs)) = true := (rfl)
@[simp] theorem lent_v {ρ : List Sl} {r : E} {i : Nat} : lent ρ (.cons (.v i) r) = (isOw ρ[i]? || lent ρ r) := by rw [lent]; congr 1
@[simp] theorem nd_none  : nd .none = true := (rfl)
@[simp] theorem nd_bool {b : Bool} : nd (.bool b) = true := (rfl)
@[simp] theorem nd_int {i : Int} : nd (.int i) = true := (rfl)
@[simp] theorem nd_str {x : Str} : nd (.str x) = true := (rfl)
@[simp] theorem nd_list {xs : List D} : nd (.list xs) = true := (rfl)
@[simp] theorem nd_tuple {xs : List D} : nd (.tuple xs) = true := (rfl)
end Pv
end
section
set_option linter.all false
set_option maxRecDepth 100000
namespace Pv
open PySem PySem.W
/-! M3: lands, said plainly -/
abbrev Pl := Int × Int
abbrev Rg := List Int × Int
def dT (l : List Int) : D := .tuple (l.map .int)
def dPl (p : Pl) : D := .tuple [.int p.1, .int p.2]
def dRg (r : Rg) : D := .tuple [.tuple (r.1.map .int), .int r.2]
structure Land where
  ps : List Pl
  rs : List Rg
def dLand (L : Land) : D := .tuple [.tuple (L.ps.map dPl), .tuple (L.rs.map dRg)]
def isPairD : D → Bool
  | .tuple [_, _] => true
  | _ => false
@[simp] theorem isPairD_2 {a b : D} : isPairD (.tuple [a, b]) = true := (rfl)
def plOf : D → Option Pl
  | .tuple [.int f, .int r] => if 0 ≤ f ∧ f ≤ 1000000 ∧ (r = -1 ∨ f ≤ r ∧ r ≤ 10000000) then some (f, r) else none
  | _ => none
def lotOf (n : Int) : Int → List D → Option (List Int)
  | _, [] => some []
  | k, .int p :: r => if k ≤ p ∧ p ≤ n - 1 then (lotOf n (p + 1) r).map (p :: ·) else none
  | _, _ :: _ => none
def rgOf (n : Int) : D → Option Rg
  | .tuple [.tuple ds, .int f] => if 2 ≤ (ds.length : Int) ∧ (ds.length : Int) < n ∧ 0 ≤ f ∧ f ≤ 10000000 then (lotOf n 0 ds).map (·, f) else none
  | _ => none
def nestedB (a b : List Int) : Bool := (a.filter (· ∈ b)).isEmpty || decide ((a.filter (· ∈ b)).length = min a.length b.length)
def roomAt (ps : List Pl) (p : Int) : Int := (ps.getD p.toNat (0, 0)).2
theorem roomAt_nat {ps : List Pl} {i : Nat} (h : i < ps.length) : roomAt ps (i : Int) = (ps[i]).2 := by simp [roomAt, List.getD, h]
def noRooms (ps : List Pl) (l : List Int) : Bool := l.all fun p => decide (roomAt ps p = -1)
def isBehind (ah : List Rg) (l : List Int) : Bool := match ah.getLast? with
  | none => true
  | some q => lexLt q.1 l
def allNested (ah : List Rg) (l : List Int) : Bool := ah.all fun q => nestedB l q.1
def rgOk (ps : List Pl) (ah : List Rg) (r : Rg) : Bool := isBehind ah r.1 && noRooms ps r.1 && allNested ah r.1
def m_plB (d : D) : Bool := (plOf d).isSome
def psFault : Nat → List D → Option Nat
  | _, [] => none
  | k, x :: xs => if m_plB x then psFault (k + 1) xs else some k
def rsFault (ps : List Pl) : List Rg → List D → Option Nat
  | _, [] => none
  | ah, x :: xs => match rgOf ps.length x with
    | some r => if rgOk ps ah r then rsFault ps (ah ++ [r]) xs else some ah.length
    | none => some ah.length
def m_isTup : D → Bool
  | .tuple _ => true
  | _ => false
@[simp] theorem isTup_tuple {xs : List D} : m_isTup (.tuple xs) = true := (rfl)
@[simp] theorem isTup_dict {b : List (D × D)} : m_isTup (.dict b) = false := (rfl)
@[simp] theorem isTup_none : m_isTup .none = false := (rfl)
@[simp] theorem isTup_bool {b : Bool} : m_isTup (.bool b) = false := (rfl)
@[simp] theorem isTup_int {b : Int} : m_isTup (.int b) = false := (rfl)
@[simp] theorem isTup_str {b : Str} : m_isTup (.str b) = false := (rfl)
@[simp] theorem isTup_list {xs : List D} : m_isTup (.list xs) = false := (rfl)
def isIntD : D → Bool
  | .int _ => true
  | _ => false
@[simp] theorem isIntD_int {b : Int} : isIntD (.int b) = true := (rfl)
@[simp] theorem isIntD_none : isIntD .none = false := (rfl)
@[simp] theorem isIntD_bool {b : Bool} : isIntD (.bool b) = false := (rfl)
@[simp] theorem isIntD_str {b : Str} : isIntD (.str b) = false := (rfl)
@[simp] theorem isIntD_list {xs : List D} : isIntD (.list xs) = false := (rfl)
@[simp] theorem isIntD_tuple {xs : List D} : isIntD (.tuple xs) = false := (rfl)
@[simp] theorem isIntD_dict {b : List (D × D)} : isIntD (.dict b) = false := (rfl)
def landFault : D → D
  | .tuple [.tuple xs, .tuple ys] => if 40 < xs.length then .tuple [.str "TooMany", .int xs.length] else match psFault 0 xs with
    | some k => .tuple [.str "BadLand", .int (k : Int)]
    | none => match rsFault (xs.filterMap plOf) [] ys with
      | some k => .tuple [.str "BadRegion", .int (k : Int)]
      | none => .none
  | _ => .tuple [.str "BadLand", .int (-1)]
theorem plOf_eq {x : D} {p : Pl} (h : plOf x = some p) : x = dPl p := by
  unfold plOf at h
  split at h
  · split at h
    · cases h; rfl
    · cases h
  · cases h
theorem lotOf_eq {n : Int} : ∀ {ds : List D} {k : Int} {l : List Int}, lotOf n k ds = some l → ds = l.map .int
  | [], _, _, h => by rw [lotOf] at h; cases h; rfl
  | .int p :: r, k, l, h => by
    rw [lotOf] at h
    split at h
    · cases e : lotOf n (p + 1) r with
      | none => rw [e] at h; cases h
      | some q => rw [e] at h; cases h; rw [List.map_cons, ← lotOf_eq e]
    · cases h
  | .none :: _, _, _, h => by simp [lotOf] at h
  | .bool _ :: _, _, _, h => by simp [lotOf] at h
  | .str _ :: _, _, _, h => by simp [lotOf] at h
  | .list _ :: _, _, _, h => by simp [lotOf] at h
  | .tuple _ :: _, _, _, h => by simp [lotOf] at h
  | .dict _ :: _, _, _, h => by simp [lotOf] at h
theorem rgOf_eq {n : Int} {x : D} {r : Rg} (h : rgOf n x = some r) : x = dRg r := by
  unfold rgOf at h
  split at h
  · split at h
    · rename_i ds f _
      cases e : lotOf n 0 ds with
      | none => rw [e] at h; cases h
      | some q => rw [e] at h; cases h; rw [lotOf_eq e]; rfl
    · cases h
  · cases h
/-- the places of a lot rise, from k, below n -/
def Rise (n : Int) : Int → List Int → Prop
  | _, [] => True
  | k, p :: r => k ≤ p ∧ p < n ∧ Rise n (p + 1) r
theorem lotOf_rise {n : Int} : ∀ {ds : List D} {k : Int} {l : List Int}, lotOf n k ds = some l → Rise n k l
  | [], _, _, h => by rw [lotOf] at h; cases h; trivial
  | .int p :: r, k, l, h => by
    rw [lotOf] at h
    split at h
    · rename_i hc
      cases e : lotOf n (p + 1) r with
      | none => rw [e] at h; cases h
      | some q => rw [e] at h; cases h; exact ⟨hc.1, by omega, lotOf_rise e⟩
    · cases h
  | .none :: _, _, _, h => by simp [lotOf] at h
  | .bool _ :: _, _, _, h => by simp [lotOf] at h
  | .str _ :: _, _, _, h => by simp [lotOf] at h
  | .list _ :: _, _, _, h => by simp [lotOf] at h
  | .tuple _ :: _, _, _, h => by simp [lotOf] at h
  | .dict _ :: _, _, _, h => by simp [lotOf] at h
theorem Rise.lot {n : Int} : ∀ {l : List Int} {k : Int}, Rise n k l → lotOf n k (l.map .int) = some l
  | [], _, _ => rfl
  | p :: r, k, ⟨h1, h2, h3⟩ => by rw [List.map_cons, lotOf, if_pos ⟨h1, by omega⟩, h3.lot]; rfl
theorem Rise.mem {n : Int} : ∀ {l : List Int} {k : Int}, Rise n k l → ∀ p ∈ l, k ≤ p ∧ p < n
  | [], _, _, p, hp => by cases hp
  | q :: r, k, ⟨h1, h2, h3⟩, p, hp => by
    rcases List.mem_cons.mp hp with rfl | hp
    · exact ⟨h1, h2⟩
    · have := h3.mem p hp; omega
theorem rgOf_rise {n : Int} {x : D} {r : Rg} (h : rgOf n x = some r) : Rise n 0 r.1 := by
  unfold rgOf at h
  split at h
  · split at h
    · rename_i ds f _
      cases e : lotOf n 0 ds with
      | none => rw [e] at h; cases h
      | some q => rw [e] at h; cases h; exact lotOf_rise e
    · cases h
  · cases h
theorem psFault_none : ∀ {xs : List D} {k : Nat}, psFault k xs = none → xs = (xs.filterMap plOf).map dPl ∧ (xs.filterMap plOf).length = xs.length
  | [], _, _ => ⟨rfl, rfl⟩
  | x :: xs, k, h => by
    rw [psFault, m_plB] at h
    cases e : plOf x with
    | none => rw [e] at h; simp at h
    | some p =>
      rw [e] at h
      simp only [Option.isSome_some, if_true] at h
      obtain ⟨h1, h2⟩ := psFault_none h
      rw [List.filterMap_cons_some e]
      exact ⟨by rw [List.map_cons, ← h1, ← plOf_eq e], by rw [List.length_cons, h2, List.length_cons]⟩
/-! limits -/
def lim (s : String) (i : Int) : D := .tuple [.str s, .int i]
def limitsD (L : Land) : List D := (List.range L.ps.length).map (fun (i : Nat) => lim "floor" (i : Int)) ++ ((List.range L.rs.length).map (fun (i : Nat) => lim "region" (i : Int)) ++ ((List.range L.ps.length).filter fun (i : Nat) => !decide (roomAt L.ps (i : Int) = -1)).map fun (i : Nat) => lim "room" (i : Int))
def isLimB (L : Land) : D → Bool
  | .tuple [.str s, x] => if s = "region" then wholeP x 0 ((L.rs.length : Int) - 1) else wholeP x 0 ((L.ps.length : Int) - 1) && (decide (s = "floor") || decide (s = "room") && match x with | .int p => !decide (roomAt L.ps p = -1) | _ => false)
  | _ => false
def lotD (L : Land) : D → D
  | .tuple [.str s, .int p] => if s = "floor" then .tuple [.int p] else if s = "region" then dT (L.rs.getD p.toNat ([], 0)).1 else .tuple (((List.range L.ps.length).filter fun (i : Nat) => !decide ((i : Int) = p)).map fun (i : Nat) => .int (i : Int))
  | _ => .none
/-- a land by form -/
def PlOk (p : Pl) : Prop := 0 ≤ p.1 ∧ p.1 ≤ 1000000 ∧ (p.2 = -1 ∨ p.1 ≤ p.2 ∧ p.2 ≤ 10000000)
def RgForm (n : Int) (r : Rg) : Prop := 2 ≤ (r.1.length : Int) ∧ (r.1.length : Int) < n ∧ 0 ≤ r.2 ∧ r.2 ≤ 10000000 ∧ Rise n 0 r.1
def RgsOk (ps : List Pl) : List Rg → List Rg → Prop
  | _, [] => True
  | ah, r :: rs => RgForm ps.length r ∧ rgOk ps ah r = true ∧ RgsOk ps (ah ++ [r]) rs
structure LandOk (L : Land) : Prop where
  many : L.ps.length ≤ 40
  pls : ∀ p ∈ L.ps, PlOk p
  rgs : RgsOk L.ps [] L.rs
theorem plOf_ok {p : Pl} (h : PlOk p) : plOf (dPl p) = some p := by
  unfold dPl plOf
  exact if_pos h
theorem rgOf_ok {n : Int} {r : Rg} (h : RgForm n r) : rgOf n (dRg r) = some r := by
  obtain ⟨h1, h2, h3, h4, h5⟩ := h
  unfold dRg rgOf
  simp only [List.length_map]
  rw [if_pos ⟨h1, h2, h3, h4⟩, h5.lot]
  rfl
theorem plOf_form {x : D} {p : Pl} (h : plOf x = some p) : PlOk p := by
  unfold plOf at h
  split at h
  · split at h
    · rename_i hc; cases h; exact hc
    · cases h
  · cases h
theorem rgOf_form {n : Int} {x : D} {r : Rg} (h : rgOf n x = some r) : RgForm n r := by
  have hr := rgOf_rise h
  unfold rgOf at h
  split at h
  · split at h
    · rename_i ds f hc
      cases e : lotOf n 0 ds with
      | none => rw [e] at h; cases h
      | some q =>
        rw [e] at h
        cases h
        have hl : ds.length = q.length := by rw [lotOf_eq e, List.length_map]
        rw [hl] at hc
        exact ⟨hc.1, hc.2.1, hc.2.2.1, hc.2.2.2, hr⟩
    · cases h
  · cases h
theorem psFault_map : ∀ {ps : List Pl} {k : Nat}, (∀ p ∈ ps, PlOk p) → psFault k (ps.map dPl) = none
  | [], _, _ => rfl
  | p :: ps, k, h => by
    rw [List.map_cons, psFault, m_plB, plOf_ok (h p List.mem_cons_self)]
    exact psFault_map fun q hq => h q (List.mem_cons_of_mem _ hq)
theorem plOf_map : ∀ {ps : List Pl}, (∀ p ∈ ps, PlOk p) → (ps.map dPl).filterMap plOf = ps
  | [], _ => rfl
  | p :: ps, h => by
    rw [List.map_cons, List.filterMap_cons_some (plOf_ok (h p List.mem_cons_self)), plOf_map fun q hq => h q (List.mem_cons_of_mem _ hq)]
theorem rsFault_map {ps : List Pl} : ∀ {rs ah : List Rg}, RgsOk ps ah rs → rsFault ps ah (rs.map dRg) = none
  | [], _, _ => rfl
  | r :: rs, ah, ⟨h1, h2, h3⟩ => by
    rw [List.map_cons, rsFault, rgOf_ok h1]
    simp only [h2, if_true]
    exact rsFault_map h3
theorem LandOk.fault {L : Land} (h : LandOk L) : landFault (dLand L) = .none := by
  have h1 := h.many
  unfold dLand landFault
  simp only [List.length_map]
  rw [if_neg (by omega), psFault_map h.pls]
  simp only
  rw [plOf_map h.pls, rsFault_map h.rgs]
@[simp] theorem plain_dT {l : List Int} : (dT l).plain = true := by unfold dT; simp [PyData.plain]
@[simp] theorem plain_dPl {p : Pl} : (dPl p).plain = true := by unfold dPl; simp [PyData.plain, PyData.plainAll]
@[simp] theorem plain_dRg {r : Rg} : (dRg r).plain = true := by unfold dRg; simp [PyData.plain, PyData.plainAll]
@[simp] theorem plain_dLand {L : Land} : (dLand L).plain = true := by
  unfold dLand
  simp only [PyData.plain, PyData.plainAll, Bool.and_true, Bool.and_eq_true]
  exact ⟨plainAll_map' fun _ _ => plain_dPl, plainAll_map' fun _ _ => plain_dRg⟩
end Pv
end
section
set_option linter.all false
set_option maxRecDepth 100000
namespace K05
open PySem PySem.W Pv
/-! M4: what refuses lands -/
theorem whole_ok {n : Nat} {d : D} {lo hi : Int} {B : Bx} (h : nd d = true) : callF G (n + 1) i_whole [d, .int lo, .int hi] B = .ok (.bool (wholeP d lo hi), false) B := by
  rw [call_eq (fd := F_whole) rfl rfl]
  refine W.eq ?_
  cases d with
  | dict _ => cases h
  | int i =>
    simp [F_whole, slots0]
    by_cases h1 : lo ≤ i <;> simp [h1]
  | _ => simp [F_whole, slots0, wholeP]
theorem pair_ok {n : Nat} {d : D} {B : Bx} (h : nd d = true) : callF G (n + 1) i_is_pair [d] B = .ok (.bool (isPairD d), false) B := by
  rw [call_eq (fd := F_is_pair) rfl rfl]
  refine W.eq ?_
  cases d with
  | dict _ => cases h
  | tuple xs =>
    match xs with
    | [] => simp [F_is_pair, slots0, isPairD]
    | [a] => simp [F_is_pair, slots0, isPairD]
    | [a, b] => simp [F_is_pair, slots0, isPairD]
    | a :: b :: c :: r => simp [F_is_pair, slots0, isPairD]; omega
  | _ => simp [F_is_pair, slots0, isPairD]
theorem isPairD_ex {d : D} (h : isPairD d = true) : ∃ a b, d = .tuple [a, b] := by
  unfold isPairD at h
  split at h
  · exact ⟨_, _, rfl⟩
  · cases h
theorem place_ok {n : Nat} {d : D} {B : Bx} (h : d.plain = true) : callF G (n + 2) i_is_place [d] B = .ok (.bool (m_plB d), false) B := by
  rw [call_eq (fd := F_is_place) rfl rfl]
  refine W.eq ?_
  have h0 := nd_plain h
  unfold m_plB
  cases hp : isPairD d with
  | false =>
    have : plOf d = none := by
      unfold plOf; split
      · simp [isPairD] at hp
      · rfl
    simp [F_is_place, slots0, pair_ok h0, hp, this]
  | true =>
    obtain ⟨a, b, rfl⟩ := isPairD_ex hp
    simp [PyData.plain, PyData.plainAll] at h
    have ha := nd_plain h.1
    have hb := nd_plain h.2
    simp [F_is_place, slots0, pair_ok h0, hp, whole_ok ha, whole_ok hb]
    cases a with
    | int f =>
      simp [wholeP]
      by_cases h1 : 0 ≤ f
      · by_cases h2 : f ≤ 1000000
        · simp [h1, h2]
          cases b with
          | int r =>
            simp [wholeP, whole_ok hb, plOf, h1, h2]
            by_cases h3 : r = -1
            · simp [h3]
            · have : ¬ (-1 ≤ r ∧ r ≤ -1) := by omega
              simp [h3]
              by_cases h4 : -1 ≤ r
              · have h5 : ¬ r ≤ -1 := by omega
                simp [h4, h5, whole_ok hb]
                by_cases h6 : f ≤ r <;> by_cases h7 : r ≤ 10000000 <;> simp [h6, h7]
              · have h6 : ¬ f ≤ r := by omega
                simp [h4, h6, whole_ok hb]
          | _ => simp [wholeP, whole_ok hb, plOf]
        · simp [h1, h2, plOf]
          split <;> simp_all <;> omega
      · simp [h1, plOf]
        split <;> simp_all <;> omega
    | _ => simp [wholeP, plOf]
theorem lot_walk {n : Nat} {c : Int} {x : D} {B : Bx} : ∀ {ds : List D} {k : Int} {s3 : Sl}, (∀ d ∈ ds, d.plain = true) →
    W (forL (turn (callF G (n + 1)) (.n 3) L_is_places_lot_0) ds [.vl (.int c), .vl x, .vl (.int k), s3] B)
      (fun f B' => B' = B ∧ if (lotOf c k ds).isSome then ∃ ρ, f = .nx ρ else f = .rt (.bool false) false) NoX
  | [], k, s3, _ => by simp [forL, lotOf]
  | d :: ds, k, s3, h => by
    have hd := nd_plain (h d List.mem_cons_self)
    have ih := fun k s3 => lot_walk (n := n) (c := c) (x := x) (B := B) (ds := ds) (k := k) (s3 := s3) fun y hy => h y (List.mem_cons_of_mem _ hy)
    rw [forL, W_bind]
    simp [turn, L_is_places_lot_0, whole_ok hd]
    cases d with
    | int p =>
      by_cases h1 : k ≤ p
      · by_cases h2 : p ≤ c - 1
        · simp [h1, h2, lotOf]
          exact ih _ _
        · simp [h1, h2, lotOf]
      · simp [h1, lotOf]
    | _ => simp [wholeP, lotOf]
def lotB (n : Int) : D → Bool
  | .tuple ds => decide (2 ≤ (ds.length : Int)) && decide ((ds.length : Int) < n) && (lotOf n 0 ds).isSome
  | _ => false
theorem lot_ok {n : Nat} {c : Int} {d : D} {B : Bx} (h : d.plain = true) : callF G (n + 2) i_is_places_lot [.int c, d] B = .ok (.bool (lotB c d), false) B := by
  rw [call_eq (fd := F_is_places_lot) rfl rfl]
  refine W.eq ?_
  have h0 := nd_plain h
  cases d with
  | dict _ => cases h0
  | tuple ds =>
    simp [F_is_places_lot, slots0, lotB]
    by_cases h1 : 2 ≤ (ds.length : Int)
    · by_cases h2 : (ds.length : Int) < c
      · simp [h1, h2]
        have hw := lot_walk (n := n) (c := c) (x := .tuple ds) (B := B) (ds := ds) (k := 0) (s3 := .un) (by simpa [PyData.plain, plainAll_iff] using h)
        refine hw.use ?_
        intro f B' ⟨hB, hf⟩
        subst hB
        cases hl : (lotOf c 0 ds).isSome with
        | true => rw [hl] at hf; obtain ⟨ρ, rfl⟩ := hf; simp
        | false => rw [hl] at hf; simp at hf; subst hf; simp
      · simp [h1, h2]
    · simp [h1]
  | _ => simp [F_is_places_lot, slots0, lotB]
theorem nested_ok {n : Nat} {a b : List Int} {B : Bx} : callF G (n + 1) i_are_nested [.tuple (a.map .int), .tuple (b.map .int)] B = .ok (.bool (nestedB a b), false) B := by
  rw [call_eq (fd := F_are_nested) rfl rfl]
  refine W.eq ?_
  simp [F_are_nested, slots0]
  refine W_lcf (u := .int) (fun p => decide (p ∈ b)) ?_ ?_
  · intro p _
    refine W.eq ?_
    simp [m_lcF]
    by_cases hp : p ∈ b <;> simp [hp]
  · simp [eqD_nilL]
    unfold nestedB
    cases hc : (a.filter fun p => decide (p ∈ b)) with
    | nil => simp
    | cons x xs =>
      simp
      constructor <;> intro _ <;> (try split) <;> omega
theorem at_room {ps : List Pl} {p : Int} (h1 : 0 ≤ p) (h2 : p < ps.length) : atIx (ps.map dPl) p = some (dPl (ps[p.toNat]'(by omega))) := by
  rw [atIx_map, atIx_nn h1 h2]; rfl
theorem rgOf_basic {n : Int} {a b : D} : (lotB n a && wholeP b 0 10000000) = (rgOf n (.tuple [a, b])).isSome := by
  cases a with
  | tuple ds =>
    cases b with
    | int f =>
      simp only [lotB, wholeP, rgOf]
      by_cases h : 2 ≤ (ds.length : Int) ∧ (ds.length : Int) < n ∧ 0 ≤ f ∧ f ≤ 10000000
      · simp [h]
      · rw [if_neg h]
        cases (lotOf n 0 ds).isSome <;> simp <;> omega
    | _ => simp [wholeP, rgOf]
  | _ => simp [lotB, rgOf]
def rgB (ps : List Pl) (ah : List Rg) (d : D) : Bool := match rgOf ps.length d with
  | some r => rgOk ps ah r
  | none => false
theorem region_ok {n : Nat} {ps : List Pl} {ah : List Rg} {d : D} {B : Bx} (h : d.plain = true) : callF G (n + 3) i_is_region [.tuple (ps.map dPl), .list (ah.map dRg), d] B = .ok (.bool (rgB ps ah d), false) B := by
  rw [call_eq (fd := F_is_region) rfl rfl]
  refine W.eq ?_
  have h0 := nd_plain h
  have pl : PyData.plainAll (ah.map dRg) = true := plainAll_map' fun _ _ => plain_dRg
  unfold rgB
  cases hr : rgOf ps.length d with
  | none =>
    cases hp : isPairD d with
    | false => simp [F_is_region, slots0, pair_ok h0, hp]
    | true =>
      obtain ⟨a, b, rfl⟩ := isPairD_ex hp
      simp [PyData.plain, PyData.plainAll] at h
      have hb := nd_plain h.2
      have bs := rgOf_basic (n := ps.length) (a := a) (b := b)
      rw [hr] at bs
      simp [F_is_region, slots0, pair_ok h0, hp, lot_ok h.1, whole_ok hb]
      refine W_tst (fun h1 => ?_) (fun h1 => ?_)
      · have : wholeP b 0 10000000 = false := by
          cases e : wholeP b 0 10000000 with
          | false => rfl
          | true => rw [e, show lotB ps.length a = true from h1] at bs; cases bs
        simp [whole_ok hb, this]
      · simp [h1]
  | some r =>
    have hd0 : nd d = true := h0
    have hd := rgOf_eq hr
    obtain ⟨f1, f2, f3, f4, f5⟩ := rgOf_form hr
    subst hd
    have hl : lotOf ps.length 0 (r.1.map .int) = some r.1 := f5.lot
    have hm := f5.mem
    simp [F_is_region, slots0, pair_ok, dRg, lot_ok, whole_ok, PyData.plain, lotB, hl, f1, f2, f3, f4, eqD_nilL pl]
    have room : ∀ p ∈ r.1, ∃ f : Int, atIx (ps.map dPl) p = some (.tuple [.int f, .int (roomAt ps p)]) := by
      intro p hp
      obtain ⟨p1, p2⟩ := hm p hp
      have hlt : p.toNat < ps.length := by omega
      rw [at_room p1 p2]
      exact ⟨(ps[p.toNat]).1, by simp [dPl, roomAt, List.getD, hlt]⟩
    have lc : ∀ (C : Cl) (s3 s4 s5 s6 : Sl), lcL (m_lcF C (.n 6) [6] (.cmp .NotEq (.idx (.idx (.v 0) (.v 6)) (.k (.int 1))) (.neg (.k (.int 1)))) (.k (.bool true)) [.vl (.tuple (ps.map dPl)), .vl (.list (ah.map dRg)), .vl (.tuple [.tuple (r.1.map .int), .int r.2]), s3, s4, s5, s6]) (r.1.map .int) B = .ok (r.1.map fun p => .bool (!decide (roomAt ps p = -1))) B := by
      intro C s3 s4 s5 s6
      refine W.eq ?_
      refine W_lcm (u := fun p => .bool (!decide (roomAt ps p = -1))) (fun p hp => ?_) ⟨rfl, rfl⟩
      refine W.eq ?_
      obtain ⟨f, hf⟩ := room p hp
      simp [m_lcF, hf]
    have nst : ∀ (s4 s5 s6 : Sl), lcL (m_lcF (callF G (n + 2)) (.tp (.cons (.n 4) (.cons (.n 5) .nil))) [4, 5] (.call i_are_nested (.cons (.v 3) (.cons (.v 4) .nil))) (.k (.bool true)) [.vl (.tuple (ps.map dPl)), .vl (.list (ah.map dRg)), .vl (.tuple [.tuple (r.1.map .int), .int r.2]), .vl (.tuple (r.1.map .int)), s4, s5, s6]) (ah.map dRg) B = .ok (ah.map fun q => .bool (nestedB r.1 q.1)) B := by
      intro s4 s5 s6
      refine W.eq ?_
      refine W_lcm (u := fun q => .bool (nestedB r.1 q.1)) (fun q hq => ?_) ⟨rfl, rfl⟩
      refine W.eq ?_
      simp [m_lcF, dRg, nested_ok]
    have nb : ∀ {α : Type} (xs : List α) (g : α → Bool), boolsOf (xs.map fun x => .bool (g x)) = some (xs.map g) := by
      intro α xs g
      rw [← boolsOf_map, List.map_map]; rfl
    have an : (r.1.map fun p => !decide (roomAt ps p = -1)).any id = !noRooms ps r.1 := by
      unfold noRooms
      rw [List.any_map, List.not_all_eq_any_not]; rfl
    have al : (ah.map fun q => nestedB r.1 q.1).all id = allNested ah r.1 := by
      unfold allNested
      rw [List.all_map]; rfl
    unfold rgOk
    generalize noRooms ps r.1 = c1 at an ⊢
    generalize allNested ah r.1 = c2 at al ⊢
    unfold isBehind
    cases hl : ah.getLast? with
    | none =>
      have e : ah = [] := by simpa using hl
      have ie : ah.isEmpty = true := by rw [e]; rfl
      have c2t : c2 = true := by rw [e] at al; exact al.symm
      rw [ie]
      simp [lc, nb, an]
      cases c1 <;> simp [nst, nb, al, c2t]
    | some q =>
      have : ah.isEmpty = false := by cases ah <;> simp at hl ⊢
      rw [this]
      simp [lc, nb, an, dRg]
      cases lexLt q.1 r.1 <;> simp [lc, nb, an]
      cases c1 <;> simp [nst, nb, al]
end K05
end
section
set_option linter.all false
set_option maxRecDepth 100000
namespace K05
open PySem PySem.W Pv
theorem ps_walk {n : Nat} {x0 x1 x2 s5 s6 s7 : Sl} {B : Bx} : ∀ {xs : List D} {k : Nat} {s3 s4 : Sl}, (∀ d ∈ xs, d.plain = true) →
    W (forL (turn (callF G (n + 2)) (.tp (.cons (.n 3) (.cons (.n 4) .nil))) L_land_fault_1) (enumL k xs) [x0, x1, x2, s3, s4, s5, s6, s7] B)
      (fun f B' => B' = B ∧ (psFault k xs = none → ∃ s3 s4, f = .nx [x0, x1, x2, s3, s4, s5, s6, s7]) ∧ ∀ at', psFault k xs = some at' → f = .rt (.tuple [.str "BadLand", .int (at' : Int)]) false) NoX
  | [], k, s3, s4, _ => by simp [enumL, forL, psFault]
  | d :: ds, k, s3, s4, h => by
    have hd := h d List.mem_cons_self
    have ih := fun k s3 s4 => ps_walk (n := n) (x0 := x0) (x1 := x1) (x2 := x2) (s5 := s5) (s6 := s6) (s7 := s7) (B := B) (xs := ds) (k := k) (s3 := s3) (s4 := s4) fun y hy => h y (List.mem_cons_of_mem _ hy)
    rw [enumL, forL, W_bind]
    simp [turn, L_land_fault_1, place_ok hd]
    cases hp : m_plB d with
    | true =>
      simp [psFault, hp]
      exact ih _ _ _
    | false => simp [psFault, hp]
theorem rs_walk {n : Nat} {x0 x2 s4 s7 : Sl} {ps : List Pl} {B : Bx} (hB : nlB B = true) : ∀ {ys : List D} {ah : List Rg} {s3 s6 : Sl}, (∀ d ∈ ys, d.plain = true) → ah.length + ys.length < 16777216 →
    W (forL (turn (callF G (n + 3)) (.tp (.cons (.n 3) (.cons (.n 6) .nil))) L_land_fault_0) (enumL ah.length ys) [x0, .vl (.tuple (ps.map dPl)), x2, s3, s4, .ow (ah.map dRg), s6, s7] B)
      (fun f B' => B' = B ∧ (rsFault ps ah ys = none → ∃ ρ, f = .nx ρ) ∧ ∀ at', rsFault ps ah ys = some at' → f = .rt (.tuple [.str "BadRegion", .int (at' : Int)]) false) NoX
  | [], ah, s3, s6, _, _ => by simp [enumL, forL, rsFault]
  | d :: ds, ah, s3, s6, h, hl => by
    have hd := h d List.mem_cons_self
    rw [enumL, forL, W_bind]
    simp [turn, L_land_fault_0, region_ok hd, noL, hB]
    simp at hl
    cases hr : rgOf ps.length d with
    | none => simp [rgB, rsFault, hr]
    | some r =>
      cases ho : rgOk ps ah r with
      | false => simp [rgB, rsFault, hr, ho]
      | true =>
        have ih := fun s3 s6 => rs_walk (n := n) (x0 := x0) (x2 := x2) (s4 := s4) (s7 := s7) (ps := ps) hB (ys := ds) (ah := ah ++ [r]) (s3 := s3) (s6 := s6) (fun y hy => h y (List.mem_cons_of_mem _ hy)) (by simp; omega)
        have hl : ah.length < 16777216 := by omega
        simp [rgB, rsFault, hr, ho, hl]
        have := ih (.vl (.int (ah.length : Int))) (.vl d)
        rw [List.length_append, List.length_singleton, List.map_append, List.map_singleton, ← rgOf_eq hr] at this
        exact this
theorem all_isT {xs : List D} : (∀ d ∈ xs, d.plain = true) → ∀ {B : Bx} {C : Cl} {ρ : List Sl}, ρ.length = 8 → lcL (m_lcF C (.n 7) [7] (.bi (.isI .tuple) (.cons (.v 7) .nil)) (.k (.bool true)) ρ) xs B = .ok (xs.map fun d => .bool (m_isTup d)) B := by
  intro h B C ρ hρ
  match ρ, hρ with
  | [r0, r1, r2, r3, r4, r5, r6, r7], _ =>
    refine W.eq ?_
    have := W_lcm (e := id) (u := fun d => .bool (m_isTup d)) (f := m_lcF C (.n 7) [7] (.bi (.isI .tuple) (.cons (.v 7) .nil)) (.k (.bool true)) [r0, r1, r2, r3, r4, r5, r6, r7]) (B := B) (xs := xs) (Q := fun a B' => a = xs.map (fun d => .bool (m_isTup d)) ∧ B' = B) (X := NoX) ?_ ⟨rfl, rfl⟩
    · rw [List.map_id] at this; exact this
    · intro d hd
      refine W.eq ?_
      have := nd_plain (h d hd)
      cases d <;> first | (cases this; done) | simp [m_lcF]
theorem fault_ok {n : Nat} {d : D} {B : Bx} (hB : nlB B = true) (h : d.plain = true) (hn : nodes d < 16777216) : callF G (n + 4) i_land_fault [d] B = .ok (landFault d, false) B := by
  rw [call_eq (fd := F_land_fault) rfl rfl]
  refine W.eq ?_
  have h0 := nd_plain h
  cases hp : isPairD d with
  | false =>
    have : landFault d = .tuple [.str "BadLand", .int (-1)] := by
      unfold landFault; split
      · simp at hp
      · rfl
    simp [F_land_fault, slots0, pair_ok h0, hp, this]
  | true =>
    obtain ⟨a, b, rfl⟩ := isPairD_ex hp
    have h' := h
    simp [PyData.plain, PyData.plainAll] at h'
    simp [F_land_fault, slots0, pair_ok, all_isT (xs := [a, b]) (by simp [h']), boolsOf]
    cases a with
    | tuple xs =>
      cases b with
      | tuple ys =>
        simp [PyData.plain, plainAll_iff] at h'
        simp [boolsOf]
        by_cases hl : 40 < xs.length
        · have hi : 40 < (xs.length : Int) := by omega
          simp [hl, hi, landFault]
        · have hi : ¬ 40 < (xs.length : Int) := by omega
          simp [hi, -Int.not_lt, hB]
          refine (ps_walk (n := n + 1) h'.1).use ?_
          rintro f B' ⟨rfl, h1, h2⟩
          cases hps : psFault 0 xs with
          | some k =>
            rw [h2 _ hps]
            simp [landFault, hl, hps]
          | none =>
            obtain ⟨s3, s4, rfl⟩ := h1 hps
            simp [hB]
            have hx := (psFault_none hps).1
            have hny : ys.length < 16777216 := by
              have := nodesL_len ys
              simp [nodes, nodesL] at hn
              omega
            have := rs_walk (n := n) (x0 := .vl (.tuple [.tuple xs, .tuple ys])) (x2 := .vl (.tuple ys)) (s4 := s4) (s7 := .un) (ps := xs.filterMap plOf) hB (ys := ys) (ah := []) (s3 := s3) (s6 := .un) h'.2 (by simpa using hny)
            rw [← hx] at this
            refine W.use this ?_
            rintro f B'' ⟨rfl, h1, h2⟩
            cases hrs : rsFault (xs.filterMap plOf) [] ys with
            | some k =>
              rw [h2 _ hrs]
              simp [landFault, hl, hps, hrs]
            | none =>
              obtain ⟨ρ, rfl⟩ := h1 hrs
              simp [landFault, hl, hps, hrs]
      | _ => simp [boolsOf, landFault]
    | _ => simp [boolsOf, landFault]
end K05
end
section
set_option linter.all false
set_option maxRecDepth 100000
namespace K05
open PySem PySem.W Pv
/-! M6: the own form of lands -/
theorem uw_whole_ok {n : Nat} {d : D} {B : Bx} (h : nd d = true) : callF G (n + 1) i__law_uw_is_whole [d] B = .ok (.bool (isIntD d), false) B := by
  rw [call_eq (fd := F__law_uw_is_whole) rfl rfl]
  refine W.eq ?_
  cases d <;> first | (cases h; done) | simp [F__law_uw_is_whole, slots0]
theorem uw_in_ok {n : Nat} {d : D} {lo hi : Int} {B : Bx} (h : nd d = true) : callF G (n + 2) i__law_uw_is_in [d, .int lo, .int hi] B = .ok (.bool (wholeP d lo hi), false) B := by
  rw [call_eq (fd := F__law_uw_is_in) rfl rfl]
  refine W.eq ?_
  cases d with
  | dict _ => cases h
  | int i =>
    simp [F__law_uw_is_in, slots0, uw_whole_ok]
    by_cases h1 : lo ≤ i <;> simp [h1]
  | _ => simp [F__law_uw_is_in, slots0, uw_whole_ok, wholeP]
theorem uw_place_ok {n : Nat} {d : D} {B : Bx} (h : d.plain = true) : callF G (n + 3) i__law_uw_is_place [d] B = .ok (.bool (m_plB d), false) B := by
  rw [call_eq (fd := F__law_uw_is_place) rfl rfl]
  refine W.eq ?_
  have h0 := nd_plain h
  unfold m_plB
  cases d with
  | dict _ => cases h0
  | tuple xs =>
    match xs with
    | [] => simp [F__law_uw_is_place, slots0, plOf]
    | [a] => simp [F__law_uw_is_place, slots0, plOf]
    | a :: b :: c :: r => 
      have : ¬ (r.length : Int) + 1 + 1 + 1 = 2 := by omega
      simp [F__law_uw_is_place, slots0, plOf, this]
    | [a, b] =>
      simp [PyData.plain, PyData.plainAll] at h
      have ha := nd_plain h.1
      have hb := nd_plain h.2
      simp [F__law_uw_is_place, slots0, uw_in_ok, ha]
      cases a with
      | int f =>
        simp
        by_cases h1 : 0 ≤ f ∧ f ≤ 1000000
        · simp [h1]
          cases b with
          | int r =>
            simp [uw_whole_ok, plOf, h1]
            by_cases h2 : r = -1
            · simp [h2]
            · by_cases h3 : f ≤ r <;> by_cases h4 : r ≤ 10000000 <;> simp [h2, h3, h4]
          | _ => simp [uw_whole_ok, hb, plOf]
        · have : (plOf (.tuple [.int f, b])) = none := by
            unfold plOf; split
            · rename_i e; cases e; rw [if_neg (by omega)]
            · rfl
          have h1' : 0 ≤ f → 1000000 < f := by omega
          by_cases h2 : 0 ≤ f
          · simp [this, h2, Int.not_le.mpr (h1' h2)]
          · simp [this, h2]
      | _ => simp [wholeP, plOf]
  | _ => simp [F__law_uw_is_place, slots0, plOf]
theorem uw_nested_ok {n : Nat} {a b : List Int} {B : Bx} : callF G (n + 1) i__law_uw_is_nested [.tuple (a.map .int), .tuple (b.map .int)] B = .ok (.bool (nestedB a b), false) B := by
  rw [call_eq (fd := F__law_uw_is_nested) rfl rfl]
  refine W.eq ?_
  simp [F__law_uw_is_nested, slots0]
  refine W_lcf (u := .int) (fun p => decide (p ∈ b)) ?_ ?_
  · intro p _
    refine W.eq ?_
    simp [m_lcF]
    by_cases hp : p ∈ b <;> simp [hp]
  · simp [eqD_nilL]
    unfold nestedB
    cases hc : (a.filter fun p => decide (p ∈ b)) with
    | nil => simp
    | cons x xs =>
      simp
      constructor <;> intro _ <;> (try split) <;> omega
def lotS (c : Int) : D → Bool
  | .tuple ds => (lotOf c 0 ds).isSome
  | _ => false
theorem uw_lot_walk {n : Nat} {c : Int} {ds : List D} {B : Bx} (h : ∀ d ∈ ds, d.plain = true) :
    W (forL (turn (callF G (n + 2)) (.n 3) L__law_uw_lot_fault_0) ((List.range ds.length).map fun (i : Nat) => .int (i : Int)) [.vl (.tuple ds), .vl (.int c), .vl (.int (-1)), .un] B)
      (fun f B' => B' = B ∧ ((lotOf c 0 ds).isSome = true → ∃ ρ, f = .nx ρ) ∧ ((lotOf c 0 ds).isSome = false → ∃ j : Int, f = .rt (.int j) false)) NoX := by
  refine W_forR (fun k ρ B' => B' = B ∧ ∃ (last : Int) (s3 : Sl), ρ = [.vl (.tuple ds), .vl (.int c), .vl (.int last), s3] ∧ (lotOf c 0 ds).isSome = (lotOf c (last + 1) (ds.drop k)).isSome) ⟨rfl, -1, .un, rfl, rfl⟩ ?_ ?_
  · rintro k hk ρ B' ⟨rfl, last, s3, rfl, hl⟩
    have hd := nd_plain (h ds[k] (List.getElem_mem hk))
    rw [List.drop_eq_getElem_cons hk] at hl
    simp [turn, L__law_uw_lot_fault_0, atIx_nat hk, uw_in_ok hd]
    cases he : ds[k] with
    | int p =>
      rw [he, lotOf] at hl
      by_cases h1 : last + 1 ≤ p
      · by_cases h2 : p ≤ c - 1
        · rw [if_pos ⟨h1, h2⟩] at hl
          simp [h1, h2, atIx_nat hk, he, hl]
        · rw [if_neg (by omega)] at hl
          have hl' : lotOf c 0 ds = none := by simpa using hl
          simp [h1, h2, hl']
      · rw [if_neg (by omega)] at hl
        have hl' : lotOf c 0 ds = none := by simpa using hl
        simp [h1, hl']
    | _ =>
      rw [he] at hl
      simp [lotOf] at hl
      simp [wholeP, hl]
  · rintro ρ B' ⟨rfl, last, s3, rfl, hl⟩
    rw [List.drop_length, lotOf] at hl
    simp at hl
    simp [hl]
theorem uw_lot_ok {n : Nat} {c : Int} {d : D} {B : Bx} (h : d.plain = true) (hn : nodes d ≤ 16777216) : ∃ r, callF G (n + 3) i__law_uw_lot_fault [d, .int c] B = .ok (r, false) B ∧ isNone r = lotS c d := by
  rw [call_eq (fd := F__law_uw_lot_fault) rfl rfl]
  have h0 := nd_plain h
  have key : W (outR (ex (callF G (n + 2)) F__law_uw_lot_fault.body (slots0 F__law_uw_lot_fault [d, .int c]) B)) (fun r B' => B' = B ∧ r.2 = false ∧ isNone r.1 = lotS c d) NoX := by
    cases d with
    | dict _ => cases h0
    | tuple ds =>
      have hl : ds.length ≤ 16777216 := by have := nodesL_len ds; simp [nodes] at hn; omega
      simp [F__law_uw_lot_fault, slots0, rngX_nat hl]
      refine (uw_lot_walk (n := n) (by simpa [PyData.plain, plainAll_iff] using h)).use ?_
      rintro f B' ⟨rfl, h1, h2⟩
      cases hs : (lotOf c 0 ds).isSome with
      | true => obtain ⟨ρ, rfl⟩ := h1 hs; simp [lotS, hs]
      | false => obtain ⟨j, rfl⟩ := h2 hs; simp [lotS, hs]
    | _ => simp [F__law_uw_lot_fault, slots0, lotS]
  obtain ⟨⟨r, b⟩, B', e, rfl, h1, h2⟩ := key.ex
  simp only at h1 h2
  subst h1
  exact ⟨r, e, h2⟩
theorem uw_region_ok {n : Nat} {c : Int} {d : D} {B : Bx} (h : d.plain = true) (hn : nodes d ≤ 16777216) : callF G (n + 4) i__law_uw_is_region [d, .int c] B = .ok (.bool (rgOf c d).isSome, false) B := by
  rw [call_eq (fd := F__law_uw_is_region) rfl rfl]
  refine W.eq ?_
  have h0 := nd_plain h
  cases d with
  | dict _ => cases h0
  | tuple xs =>
    match xs with
    | [] => simp [F__law_uw_is_region, slots0, rgOf]
    | [a] => simp [F__law_uw_is_region, slots0, rgOf]
    | a :: b :: e :: r => 
      have : ¬ (r.length : Int) + 1 + 1 + 1 = 2 := by omega
      simp [F__law_uw_is_region, slots0, rgOf, this]
    | [a, b] =>
      simp [PyData.plain, PyData.plainAll] at h
      have hb := nd_plain h.2
      have hna : nodes a ≤ 16777216 := by simp [nodes, nodesL] at hn; omega
      obtain ⟨r, hr, hr2⟩ := uw_lot_ok (n := n) (c := c) (B := B) h.1 hna
      rw [← rgOf_basic]
      simp [F__law_uw_is_region, slots0, hr, hr2]
      cases a with
      | tuple ds =>
        cases hs : (lotOf c 0 ds).isSome with
        | false => simp [lotS, lotB, hs]
        | true =>
          simp [lotS, lotB, hs]
          by_cases h1 : 2 ≤ (ds.length : Int)
          · by_cases h2 : (ds.length : Int) < c
            · simp [h1, h2, uw_in_ok hb]
            · simp [h1, h2]
          · simp [h1]
      | _ => simp [lotS, lotB]
  | _ => simp [F__law_uw_is_region, slots0, rgOf]
end K05
end
section
set_option linter.all false
set_option maxRecDepth 100000
namespace K05
open PySem PySem.W Pv
theorem uw_ps_walk {n : Nat} {x0 x2 : Sl} {xs : List D} {B : Bx} (h : ∀ d ∈ xs, d.plain = true) :
    W (forL (turn (callF G (n + 3)) (.n 3) L__law_uw_land_fault_1) ((List.range xs.length).map fun (i : Nat) => .int (i : Int)) [x0, .vl (.tuple xs), x2, .un, .un, .un, .un] B)
      (fun f B' => B' = B ∧ (psFault 0 xs = none → ∃ s3, f = .nx [x0, .vl (.tuple xs), x2, s3, .un, .un, .un]) ∧ ∀ at', psFault 0 xs = some at' → f = .rt (.tuple [.str "BadLand", .int (at' : Int)]) false) NoX := by
  refine W_forR (fun k ρ B' => B' = B ∧ (∃ s3, ρ = [x0, .vl (.tuple xs), x2, s3, .un, .un, .un]) ∧ psFault 0 xs = psFault k (xs.drop k)) ⟨rfl, ⟨_, rfl⟩, rfl⟩ ?_ ?_
  · rintro k hk ρ B' ⟨rfl, ⟨s3, rfl⟩, hl⟩
    have hd := h xs[k] (List.getElem_mem hk)
    rw [List.drop_eq_getElem_cons hk, psFault] at hl
    simp [turn, L__law_uw_land_fault_1, atIx_nat hk, uw_place_ok hd]
    cases hp : m_plB xs[k] with
    | true =>
      rw [hp] at hl
      simp at hl
      simp [hl]
    | false =>
      rw [hp] at hl
      simp at hl
      simp [hl]
  · rintro ρ B' ⟨rfl, ⟨s3, rfl⟩, hl⟩
    rw [List.drop_length, psFault] at hl
    simp [hl]
theorem uw_rs_walk {n : Nat} {x0 s3 : Sl} {ps : List Pl} {ys : List D} {B : Bx} (h : ∀ d ∈ ys, d.plain = true) (hn : ∀ d ∈ ys, nodes d ≤ 16777216) :
    W (forL (turn (callF G (n + 4)) (.n 3) L__law_uw_land_fault_0) ((List.range ys.length).map fun (i : Nat) => .int (i : Int)) [x0, .vl (.tuple (ps.map dPl)), .vl (.tuple ys), s3, .un, .un, .un] B)
      (fun f B' => B' = B ∧ (rsFault ps [] ys = none → ∃ ρ, f = .nx ρ) ∧ ∀ at', rsFault ps [] ys = some at' → f = .rt (.tuple [.str "BadRegion", .int (at' : Int)]) false) NoX := by
  refine W_forR (fun k ρ B' => B' = B ∧ (∃ s3 s4, ρ = [x0, .vl (.tuple (ps.map dPl)), .vl (.tuple ys), s3, s4, .un, .un]) ∧ ∃ ah : List Rg, ah.length = k ∧ ys.take k = ah.map dRg ∧ rsFault ps [] ys = rsFault ps ah (ys.drop k)) ⟨rfl, ⟨_, _, rfl⟩, [], rfl, rfl, rfl⟩ ?_ ?_
  · rintro k hk ρ B' ⟨rfl, ⟨s3, s4, rfl⟩, ah, hk2, htk, hl⟩
    have hd := h ys[k] (List.getElem_mem hk)
    have hm := hn ys[k] (List.getElem_mem hk)
    rw [List.drop_eq_getElem_cons hk, rsFault] at hl
    cases hr : rgOf ps.length ys[k] with
    | none =>
      rw [hr] at hl
      simp at hl
      simp [turn, L__law_uw_land_fault_0, atIx_nat hk, uw_region_ok hd hm, hr, hl, hk2]
    | some r =>
      rw [hr] at hl
      simp only at hl
      have hdr := rgOf_eq hr
      obtain ⟨f1, f2, f3, f4, f5⟩ := rgOf_form hr
      have hm' := f5.mem
      have hbk : ah ≠ [] → atIx ys ((k : Int) - 1) = ah.getLast?.map dRg := by
        intro hne
        have hk0 : 0 < k := by rw [← hk2]; exact List.length_pos_iff.mpr hne
        have e1 : (ys.take k)[k - 1]? = ys[k - 1]? := List.getElem?_take_of_lt (by omega)
        rw [atIx_nn' (by omega), show ((k : Int) - 1).toNat = k - 1 by omega, List.getLast?_eq_getElem?, hk2, ← List.getElem?_map, ← htk, e1]
      have room : ∀ p ∈ r.1, ∃ f : Int, atIx (ps.map dPl) p = some (.tuple [.int f, .int (roomAt ps p)]) := by
        intro p hp
        obtain ⟨p1, p2⟩ := hm' p hp
        have hlt : p.toNat < ps.length := by omega
        rw [at_room p1 p2]
        exact ⟨(ps[p.toNat]).1, by simp [dPl, roomAt, List.getD, hlt]⟩
      have ctk : cut ys none (some (k : Int)) = ah.map dRg := by
        rw [cut_take (by omega), ← htk]; rfl
      have nst : ∀ (C : Cl) (_ : C = callF G (n + 4)) (s5 s6 : Sl), lcL (m_lcF C (.n 5) [5] (.v 5) (.not (.call i__law_uw_is_nested (.cons (.idx (.v 4) (.k (.int 0))) (.cons (.idx (.v 5) (.k (.int 0))) .nil)))) [x0, .vl (.tuple (ps.map dPl)), .vl (.tuple ys), .vl (.int k), .vl (.tuple [.tuple (r.1.map .int), .int r.2]), s5, s6]) (ah.map dRg) B' = .ok ((ah.filter fun q => !nestedB r.1 q.1).map dRg) B' := by
        rintro C rfl s5 s6
        refine W.eq ?_
        refine W_lcf (u := dRg) (fun q => !nestedB r.1 q.1) (fun q hq => ?_) ⟨rfl, rfl⟩
        refine W.eq ?_
        simp [m_lcF, dRg, uw_nested_ok]
        cases nestedB r.1 q.1 <;> simp
      have rms : ∀ (C : Cl) (s5 s6 : Sl), lcL (m_lcF C (.n 6) [6] (.v 6) (.cmp .NotEq (.idx (.idx (.v 1) (.v 6)) (.k (.int 1))) (.neg (.k (.int 1)))) [x0, .vl (.tuple (ps.map dPl)), .vl (.tuple ys), .vl (.int k), .vl (.tuple [.tuple (r.1.map .int), .int r.2]), s5, s6]) (r.1.map .int) B' = .ok ((r.1.filter fun p => !decide (roomAt ps p = -1)).map .int) B' := by
        intro C s5 s6
        refine W.eq ?_
        refine W_lcf (u := .int) (fun p => !decide (roomAt ps p = -1)) (fun p hp => ?_) ⟨rfl, rfl⟩
        refine W.eq ?_
        obtain ⟨f, hf⟩ := room p hp
        simp [m_lcF, hf]
        by_cases h : roomAt ps p = -1 <;> simp [h]
      have e1 : ((ah.filter fun q => !nestedB r.1 q.1).map dRg).isEmpty = allNested ah r.1 := by
        rw [List.isEmpty_map]
        unfold allNested
        rw [Bool.eq_iff_iff, List.isEmpty_iff, List.filter_eq_nil_iff, List.all_eq_true]
        simp
      have e2 : ((r.1.filter fun p => !decide (roomAt ps p = -1)).map PyData.int).isEmpty = noRooms ps r.1 := by
        rw [List.isEmpty_map]
        unfold noRooms
        rw [Bool.eq_iff_iff, List.isEmpty_iff, List.filter_eq_nil_iff, List.all_eq_true]
        simp
      have p1 : PyData.plainAll ((ah.filter fun q => !nestedB r.1 q.1).map dRg) = true := plainAll_map' fun _ _ => plain_dRg
      have q1 := eqD_nilL p1
      have q2 := eqD_nilL (plainAll_ints (r.1.filter fun p => !decide (roomAt ps p = -1)))
      rw [e1] at q1
      rw [e2] at q2
      have bh : isBehind ah r.1 = true ∧ ah = [] ∨ ah ≠ [] ∧ ∃ q, ah.getLast? = some q ∧ isBehind ah r.1 = lexLt q.1 r.1 := by
        cases hg : ah.getLast? with
        | none => exact .inl ⟨by unfold isBehind; rw [hg], by simpa using hg⟩
        | some q =>
          refine .inr ⟨fun e => ?_, q, rfl, by unfold isBehind; rw [hg]⟩
          rw [e] at hg
          cases hg
      have hat : atIx ys (k : Int) = some (.tuple [.tuple (r.1.map .int), .int r.2]) := by rw [atIx_nat hk, hdr]; rfl
      rw [hdr] at hd hm hr
      have nst' := nst _ rfl
      have htk' : ys.take (k + 1) = (ah ++ [r]).map dRg := by
        rw [List.take_succ_eq_append_getElem hk, htk, hdr, List.map_append]; rfl
      unfold dRg at hd hm hr
      unfold rgOk at hl
      simp only [Bool.and_eq_true] at hl
      rcases bh with ⟨b1, b2⟩ | ⟨b1, q, b2, b3⟩
      · have k0 : (0 < k) = False := by rw [← hk2, b2]; simp
        simp [turn, L__law_uw_land_fault_0, hat, uw_region_ok hd hm, hr, k0, ctk, nst', q1]
        cases ha : allNested ah r.1 with
        | false => 
          simp [ha] at hl
          simp [hl, hk2]
        | true =>
          simp [rms, q2]
          cases hb : noRooms ps r.1 with
          | false =>
            simp [hb] at hl
            simp [hl, hk2]
          | true =>
            simp [ha, hb, b1] at hl
            simp [hl]
            exact ⟨ah ++ [r], by simp [hk2], htk', rfl⟩
      · have k0 : (0 < k) = True := by rw [← hk2]; have := List.length_pos_iff.mpr b1; simp; omega
        have hq := hbk b1
        rw [b2] at hq
        simp [turn, L__law_uw_land_fault_0, hat, uw_region_ok hd hm, hr, k0, hq, ctk, nst', q1]
        simp [dRg, ← b3]
        cases hc : isBehind ah r.1 with
        | false =>
          simp [hc] at hl
          simp [hl, hk2]
        | true =>
          simp [ctk, nst', q1]
          cases ha : allNested ah r.1 with
          | false => 
            simp [ha] at hl
            simp [hl, hk2]
          | true =>
            simp [rms, q2]
            cases hb : noRooms ps r.1 with
            | false =>
              simp [hb] at hl
              simp [hl, hk2]
            | true =>
              simp [ha, hb, hc] at hl
              simp [hl]
              exact ⟨ah ++ [r], by simp [hk2], htk', rfl⟩
  · rintro ρ B' ⟨rfl, ⟨s3, s4, rfl⟩, ah, hk2, htk, hl⟩
    rw [List.drop_length, rsFault] at hl
    simp [hl]
theorem uw_fault_ok {n : Nat} {d : D} {B : Bx} (h : d.plain = true) (hn : nodes d < 16777216) : callF G (n + 5) i__law_uw_land_fault [d] B = .ok (landFault d, false) B := by
  rw [call_eq (fd := F__law_uw_land_fault) rfl rfl]
  refine W.eq ?_
  have h0 := nd_plain h
  cases d with
  | dict _ => cases h0
  | tuple xs =>
    match xs with
    | [] => simp [F__law_uw_land_fault, slots0, landFault]
    | [a] => simp [F__law_uw_land_fault, slots0, landFault]
    | a :: b :: e :: r => 
      have : ¬ (r.length : Int) + 1 + 1 + 1 = 2 := by omega
      simp [F__law_uw_land_fault, slots0, landFault, this]
    | [a, b] =>
      have h' := h
      simp [PyData.plain, PyData.plainAll] at h'
      have ct : ∀ (C : Cl) (s0 s1 s2 s3 s4 s5 s6 : Sl), lcL (m_lcF C (.n 4) [4] (.v 4) (.not (.bi (.isI .tuple) (.cons (.v 4) .nil))) [s0, s1, s2, s3, s4, s5, s6]) [a, b] B = .ok ([a, b].filter fun d => !m_isTup d) B := by
        intro C s0 s1 s2 s3 s4 s5 s6
        refine W.eq ?_
        have := W_lcf (e := id) (u := id) (f := m_lcF C (.n 4) [4] (.v 4) (.not (.bi (.isI .tuple) (.cons (.v 4) .nil))) [s0, s1, s2, s3, s4, s5, s6]) (B := B) (xs := [a, b]) (Q := fun r B' => r = [a, b].filter (fun d => !m_isTup d) ∧ B' = B) (X := NoX) (fun d => !m_isTup d) ?_ ⟨by rw [List.map_id], rfl⟩
        · rw [List.map_id] at this; exact this
        · intro d hd
          refine W.eq ?_
          have hp : nd d = true := by
            rcases List.mem_cons.mp hd with rfl | hd
            · exact nd_plain h'.1
            · rcases List.mem_cons.mp hd with rfl | hd
              · exact nd_plain h'.2
              · cases hd
          cases d <;> first | (cases hp; done) | simp [m_lcF]
      simp only [List.filter_cons, List.filter_nil] at ct
      simp [F__law_uw_land_fault, slots0, ct]
      cases a with
      | tuple xs =>
        cases b with
        | tuple ys =>
          simp [PyData.plain, plainAll_iff] at h'
          have hxn : xs.length < 16777216 := by
            have := nodesL_len xs
            simp [nodes, nodesL] at hn
            omega
          have hyn : nodesL ys < 16777216 := by
            simp [nodes, nodesL] at hn
            omega
          have hyl := nodesL_len ys
          by_cases hl : 40 < xs.length
          · have hi : 40 < (xs.length : Int) := by omega
            simp [hl, hi, landFault]
          · have hi : ¬ 40 < (xs.length : Int) := by omega
            simp [hi, -Int.not_lt, rngX_nat (show xs.length ≤ 16777216 by omega)]
            refine (uw_ps_walk (n := n + 1) h'.1).use ?_
            rintro f B' ⟨rfl, h1, h2⟩
            cases hps : psFault 0 xs with
            | some k =>
              rw [h2 _ hps]
              simp [landFault, hl, hps]
            | none =>
              obtain ⟨s3, rfl⟩ := h1 hps
              simp [rngX_nat (show ys.length ≤ 16777216 by omega)]
              have hx := (psFault_none hps).1
              have := uw_rs_walk (n := n) (x0 := .vl (.tuple [.tuple xs, .tuple ys])) (s3 := s3) (ps := xs.filterMap plOf) (ys := ys) (B := B') h'.2 (fun d hd => by have := nodesL_mem hd; omega)
              rw [← hx] at this
              refine W.use this ?_
              rintro f B'' ⟨rfl, h1, h2⟩
              cases hrs : rsFault (xs.filterMap plOf) [] ys with
              | some k =>
                rw [h2 _ hrs]
                simp [landFault, hl, hps, hrs]
              | none =>
                obtain ⟨ρ, rfl⟩ := h1 hrs
                simp [landFault, hl, hps, hrs]
        | _ => simp [landFault, eqD_nilL, PyData.plainAll, h']
      | _ => cases b <;> simp [landFault, eqD_nilL, PyData.plainAll, h']
  | _ => simp [F__law_uw_land_fault, slots0, landFault]
/-! what is asked of lands -/
theorem fault_cases (d : D) : landFault d = .none ∨ (∃ k : Int, landFault d = .tuple [.str "TooMany", .int k]) ∨ (∃ k : Int, landFault d = .tuple [.str "BadRegion", .int k]) ∨ ∃ k : Int, landFault d = .tuple [.str "BadLand", .int k] := by
  unfold landFault
  split
  · split
    · exact .inr (.inl ⟨_, rfl⟩)
    · split
      · exact .inr (.inr (.inr ⟨_, rfl⟩))
      · split
        · exact .inr (.inr (.inl ⟨_, rfl⟩))
        · exact .inl rfl
  · exact .inr (.inr (.inr ⟨_, rfl⟩))
theorem asked_ok {n : Nat} {d : D} {B : Bx} (hB : nlB B = true) (h : d.plain = true) (hn : nodes d < 16777216) (hf : landFault d = .none) : callF G (n + 5) i_asked_land [d] B = .ok (.none, false) B := by
  rw [call_eq (fd := F_asked_land) rfl rfl]
  refine W.eq ?_
  simp [F_asked_land, slots0, fault_ok hB h hn, hf]
theorem asked_x {d : D} (h : d.plain = true) (hn : nodes d < 16777216) (hf : landFault d ≠ .none) : ∃ c w, (∀ (n : Nat) (B : Bx), nlB B = true → callF G (n + 5) i_asked_land [d] B = .ex c w B) ∧ landFault d = .tuple [.str (heardOf heard0 c), w] := by
  rcases fault_cases d with e | ⟨k, e⟩ | ⟨k, e⟩ | ⟨k, e⟩
  · exact absurd e hf
  · refine ⟨e_TooMany, .int k, fun n B hB => ?_, ?_⟩
    · rw [call_eq (fd := F_asked_land) rfl rfl]
      exact W.eqx (by simp [F_asked_land, slots0, fault_ok hB h hn, e])
    · rw [e]; rfl
  · refine ⟨e_BadRegion, .int k, fun n B hB => ?_, ?_⟩
    · rw [call_eq (fd := F_asked_land) rfl rfl]
      exact W.eqx (by simp [F_asked_land, slots0, fault_ok hB h hn, e])
    · rw [e]; rfl
  · refine ⟨e_BadLand, .int k, fun n B hB => ?_, ?_⟩
    · rw [call_eq (fd := F_asked_land) rfl rfl]
      exact W.eqx (by simp [F_asked_land, slots0, fault_ok hB h hn, e])
    · rw [e]; rfl
end K05
end
section
set_option linter.all false
set_option maxRecDepth 100000
namespace K05
open PySem PySem.W Pv
/-! M8: limits and their lots -/
theorem dLand_eq (L : Land) : dLand L = .tuple [.tuple (L.ps.map dPl), .tuple (L.rs.map dRg)] := rfl
theorem getD_map_lt {α β : Type} {f : α → β} {xs : List α} {i : Nat} {d : β} {d' : α} (h : i < xs.length) : (xs.map f).getD i d = f (xs.getD i d') := by
  simp [List.getD, h]
theorem limits_in_ok {n : Nat} {L : Land} {B : Bx} (hB : nlB B = true) (h1 : L.ps.length ≤ 1000) (h2 : L.rs.length ≤ 1000) : callF G (n + 1) i_limits_in [dLand L] B = .ok (.list (limitsD L), true) B := by
  rw [call_eq (fd := F_limits_in) rfl rfl, dLand_eq]
  refine W.eq ?_
  simp [F_limits_in, slots0, rngX_nat (show L.ps.length ≤ 16777216 by omega), rngX_nat (show L.rs.length ≤ 16777216 by omega)]
  refine W_lcm (u := fun (i : Nat) => lim "floor" (i : Int)) (fun i _ => W.eq (by simp [m_lcF, lim])) ?_
  simp [hB]
  refine W_lcm (u := fun (i : Nat) => lim "region" (i : Int)) (fun i _ => W.eq (by simp [m_lcF, lim])) ?_
  simp [hB, (show L.ps.length + L.rs.length ≤ 16777216 by omega), enumL_range]
  refine W_lcf (u := fun (i : Nat) => lim "room" (i : Int)) (fun i => !decide (roomAt L.ps (i : Int) = -1)) (fun i hi => W.eq ?_) ?_
  · have hi' := List.mem_range.mp hi
    rw [List.getElem?_eq_getElem hi', roomAt_nat hi']
    simp [m_lcF, lim, dPl]
    by_cases h : (L.ps[i]).2 = -1 <;> simp [h]
  · have := List.length_filter_le (fun (i : Nat) => !decide (roomAt L.ps (i : Int) = -1)) (List.range L.ps.length)
    rw [List.length_range] at this
    simp [limitsD]
    rw [if_pos (by omega)]
    simp
theorem uw_limits_ok {n : Nat} {L : Land} {B : Bx} (h1 : L.ps.length ≤ 1000) (h2 : L.rs.length ≤ 1000) : callF G (n + 1) i__law_uw_limits [dLand L] B = .ok (.list (limitsD L), true) B := by
  rw [call_eq (fd := F__law_uw_limits) rfl rfl, dLand_eq]
  refine W.eq ?_
  simp [F__law_uw_limits, slots0, rngX_nat (show L.ps.length ≤ 16777216 by omega), rngX_nat (show L.rs.length ≤ 16777216 by omega)]
  refine W_lcm (u := fun (i : Nat) => lim "floor" (i : Int)) (fun i _ => W.eq (by simp [m_lcF, lim])) ?_
  simp
  refine W_lcm (u := fun (i : Nat) => lim "region" (i : Int)) (fun i _ => W.eq (by simp [m_lcF, lim])) ?_
  simp [(show L.ps.length + L.rs.length ≤ 16777216 by omega), rngX_nat (show L.ps.length ≤ 16777216 by omega)]
  refine W_lcf (u := fun (i : Nat) => lim "room" (i : Int)) (fun i => !decide (roomAt L.ps (i : Int) = -1)) (fun i hi => W.eq ?_) ?_
  · have hi' := List.mem_range.mp hi
    rw [roomAt_nat hi']
    simp [m_lcF, lim, dPl, atIx_map, atIx_nat hi']
    by_cases h : (L.ps[i]).2 = -1 <;> simp [h]
  · have := List.length_filter_le (fun (i : Nat) => !decide (roomAt L.ps (i : Int) = -1)) (List.range L.ps.length)
    rw [List.length_range] at this
    simp [limitsD]
    rw [if_pos (by omega)]
    simp
theorem lot_in_ok {n : Nat} {L : Land} {s : Str} {p : Int} {B : Bx} (h1 : L.ps.length ≤ 1000) (hl : isLimB L (.tuple [.str s, .int p]) = true) : callF G (n + 1) i_lot_in [dLand L, .tuple [.str s, .int p]] B = .ok (lotD L (.tuple [.str s, .int p]), false) B := by
  rw [call_eq (fd := F_lot_in) rfl rfl, dLand_eq]
  refine W.eq ?_
  simp [F_lot_in, slots0]
  simp [isLimB] at hl
  by_cases h2 : s = "floor"
  · simp [h2, lotD]
  · by_cases h3 : s = "region"
    · simp [h3] at hl
      have hlt : p.toNat < L.rs.length := by omega
      simp [h3, atIx_map, atIx_nn hl.1 (by omega : p < L.rs.length), dRg, lotD, hlt, dT]
    · simp [h2, h3, rngX_nat (show L.ps.length ≤ 16777216 by omega)]
      refine W_lcf (u := fun (i : Nat) => .int (i : Int)) (fun i => !decide ((i : Int) = p)) (fun i hi => W.eq ?_) ?_
      · simp [m_lcF]
        by_cases h : (i : Int) = p <;> simp [h]
      · simp [lotD, h2, h3]
theorem uw_lot_d {n : Nat} {L : Land} {s : Str} {p : Int} {B : Bx} (h1 : L.ps.length ≤ 1000) (hl : isLimB L (.tuple [.str s, .int p]) = true) : callF G (n + 1) i__law_uw_lot [dLand L, .tuple [.str s, .int p]] B = .ok (lotD L (.tuple [.str s, .int p]), false) B := by
  rw [call_eq (fd := F__law_uw_lot) rfl rfl, dLand_eq]
  refine W.eq ?_
  simp [F__law_uw_lot, slots0]
  simp [isLimB] at hl
  by_cases h3 : s = "region"
  · simp [h3] at hl
    have hlt : p.toNat < L.rs.length := by omega
    simp [h3, atIx_map, atIx_nn hl.1 (by omega : p < L.rs.length), dRg, lotD, hlt, dT]
  · by_cases h2 : s = "floor"
    · simp [h2, lotD]
    · simp [h2, h3, rngX_nat (show L.ps.length ≤ 16777216 by omega)]
      refine W_lcf (u := fun (i : Nat) => .int (i : Int)) (fun i => !decide ((i : Int) = p)) (fun i hi => W.eq ?_) ?_
      · simp [m_lcF]
        by_cases h : (i : Int) = p <;> simp [h]
      · simp [lotD, h2, h3]
end K05
end
section
set_option linter.all false
set_option maxRecDepth 100000
set_option exponentiation.threshold 5000
namespace K05
open PySem PySem.W Pv
/-! M9: the jar -/
def JarOk (B : Bx) : Prop := ∃ d s c : Int, B = [[.int d, .int s, .int c]] ∧ 0 ≤ d ∧ 0 ≤ s ∧ s < 2147483647 ∧ 0 ≤ c
theorem JarOk.nl {B : Bx} (h : JarOk B) : nlB B = true := by
  obtain ⟨d, s, c, rfl, _⟩ := h
  simp [nlB, noLs, noL]
theorem take_W {n : Nat} {many : Int} {B : Bx} {X : Nat → D → Bx → Prop} (hB : JarOk B) (h1 : 1 ≤ many) (h2 : many < 1073741824) : W (callF G (n + 1) i__law_take [bref 0, .int many] B) (fun r B' => JarOk B' ∧ ∃ v : Int, r = (.int v, false) ∧ 0 ≤ v ∧ v < many) X := by
  obtain ⟨d, s, c, rfl, hd, hs, hs2, hc⟩ := hB
  rw [call_eq (fd := F__law_take) rfl rfl]
  have m0 : many ≠ 0 := by omega
  have ma : many.natAbs < 1073741824 := by omega
  by_cases hp : 0 < d
  · simp [F__law_take, slots0, subO, hp, m0, ma]
    exact ⟨⟨_, s, c, rfl, Int.fdiv_nonneg hd (by omega), hs, hs2, hc⟩, Int.fmod_nonneg_of_pos _ (by omega), Int.fmod_lt_of_pos _ (by omega)⟩
  · have s1 := Int.fmod_nonneg_of_pos (s * 39373 + 7919 * (c + 1) + 7) (b := 2147483647) (by omega)
    have s2 := Int.fmod_lt_of_pos (s * 39373 + 7919 * (c + 1) + 7) (b := 2147483647) (by omega)
    generalize hs' : (s * 39373 + 7919 * (c + 1) + 7).fmod 2147483647 = s' at s1 s2
    have k1 : mulOk s 39373 = true := mulOk_r (by decide) (by decide)
    have k2 : mulOk 7919 (c + 1) = true := mulOk_l (by decide) (by decide)
    have k3 : mulOk s' s' = true := mulOk_l (by omega) (by omega)
    simp [F__law_take, slots0, subO, hp, m0, ma, k1, k2, k3, hs']
    exact ⟨⟨d, s', _, rfl, hd, s1, s2, by omega⟩, Int.fmod_nonneg_of_pos _ (by omega), Int.fmod_lt_of_pos _ (by omega)⟩
theorem one_W {n : Nat} {xs : List D} {B : Bx} {X : Nat → D → Bx → Prop} (hB : JarOk B) (h1 : xs ≠ []) (h2 : xs.length < 1073741824) : W (callF G (n + 2) i__law_one [bref 0, .list xs] B) (fun r B' => JarOk B' ∧ ∃ d ∈ xs, r = (d, false)) X := by
  have hl : 0 < xs.length := List.length_pos_iff.mpr h1
  rw [call_eq (fd := F__law_one) rfl rfl]
  simp [F__law_one, slots0]
  refine (take_W hB (by omega) (by omega)).use ?_
  rintro r B' ⟨jB, v, rfl, v1, v2⟩
  simp [atIx_nn v1 v2]
  exact jB
theorem era_perm {α : Type} : ∀ (l : List α) (i : Nat) (h : i < l.length), (l[i] :: l.eraseIdx i).Perm l
  | x :: l, 0, _ => List.Perm.refl _
  | x :: l, i + 1, h => by
    have := era_perm l i (by simpa using h)
    exact (List.Perm.swap _ _ _).trans (List.Perm.cons x this)
theorem mixed_W {n : Nat} {xs : List D} {B : Bx} {X : Nat → D → Bx → Prop} (hB : JarOk B) (hl : xs.length ≤ 10000) : W (callF G (n + 2) i__law_mixed [bref 0, .list xs] B) (fun r B' => JarOk B' ∧ ∃ ys : List D, r = (.list ys, true) ∧ ys.Perm xs) X := by
  rw [call_eq (fd := F__law_mixed) rfl rfl]
  simp [F__law_mixed, slots0, hB.nl, rngX_nat (show xs.length ≤ 16777216 by omega)]
  refine W_forR (fun k ρ B => JarOk B ∧ ∃ (left made : List D) (x4 : Sl), ρ = [.vl (bref 0), .vl (.list xs), .ow left, .ow made, x4] ∧ left.length + k = xs.length ∧ made.length = k ∧ (made ++ left).Perm xs) ⟨hB, xs, [], .un, rfl, rfl, rfl, List.Perm.refl _⟩ ?_ ?_
  · rintro k hk ρ B ⟨hB, left, made, x4, rfl, h1, h2, h3⟩
    simp [turn, L__law_mixed_0]
    refine (take_W hB (by omega) (by omega)).use ?_
    rintro r B' ⟨jB, v, rfl, v1, v2⟩
    have hv : v.toNat < left.length := by omega
    have c1 : made.length < 16777216 ∧ 0 ≤ v ∧ v < 4611686018427387904 := ⟨by omega, v1, by omega⟩
    simp [c1, hv]
    refine ⟨jB, _, made ++ [left[v.toNat]], ⟨rfl, rfl⟩, ?_, ?_, ?_⟩
    · rw [List.length_eraseIdx, if_pos hv]; omega
    · simp [h2]
    · rw [List.append_assoc]
      exact (List.Perm.append_left made (era_perm left v.toNat hv)).trans h3
  · rintro ρ B ⟨hB, left, made, x4, rfl, h1, h2, h3⟩
    have l0 : left = [] := List.eq_nil_of_length_eq_zero (by omega)
    subst l0
    rw [List.append_nil] at h3
    simp
    exact ⟨hB, h3⟩
theorem floor_W {n : Nat} {B : Bx} {X : Nat → D → Bx → Prop} (hB : JarOk B) : W (callF G (n + 3) i__law_uw_floor [bref 0] B) (fun r B' => JarOk B' ∧ ∃ v : Int, r = (.int v, false) ∧ 0 ≤ v ∧ v ≤ 3) X := by
  rw [call_eq (fd := F__law_uw_floor) rfl rfl]
  simp [F__law_uw_floor, slots0]
  refine (one_W hB (by simp) (by simp)).use ?_
  rintro r B' ⟨jB, d, hd, rfl⟩
  simp at hd
  rcases hd with rfl | rfl | rfl | rfl <;> simp [jB]
theorem many_W {n : Nat} {B : Bx} {X : Nat → D → Bx → Prop} (hB : JarOk B) : W (callF G (n + 3) i__law_uw_many [bref 0, .int 40] B) (fun r B' => JarOk B' ∧ ∃ v : Nat, r = (.int v, false) ∧ v ≤ 40) X := by
  rw [call_eq (fd := F__law_uw_many) rfl rfl]
  simp [F__law_uw_many, slots0]
  refine (take_W hB (by omega) (by omega)).use ?_
  rintro r B' ⟨jB, v, rfl, v1, v2⟩
  simp
  by_cases h : v = 0
  · simp [h]
    exact ⟨jB, 40, rfl, by omega⟩
  · simp [h]
    refine (one_W jB (by simp) (by simp)).use ?_
    rintro r B' ⟨jB, d, hd, rfl⟩
    simp at hd
    have : ∃ u : Nat, d = .int u ∧ u ≤ 40 := by rcases hd with rfl | rfl | rfl | rfl | rfl | rfl | rfl | rfl <;> first | exact ⟨0, rfl, by omega⟩ | exact ⟨1, rfl, by omega⟩ | exact ⟨2, rfl, by omega⟩ | exact ⟨3, rfl, by omega⟩ | exact ⟨4, rfl, by omega⟩ | exact ⟨5, rfl, by omega⟩ | exact ⟨6, rfl, by omega⟩ | exact ⟨7, rfl, by omega⟩
    obtain ⟨u, rfl, hu⟩ := this
    simp
    refine ⟨jB, ?_⟩
    split
    · exact ⟨u, rfl, hu⟩
    · exact ⟨40, rfl, by omega⟩
theorem pool_W {n : Nat} (ns : List Int) (hl : ns.length ≤ 1000) {X : Nat → D → Bx → Prop} : W (callF G (n + 1) i__law_pool [.list (ns.map .int)] []) (fun r B' => r = (bref 0, false) ∧ JarOk B') X := by
  rw [call_eq (fd := F__law_pool) rfl rfl]
  simp [F__law_pool, slots0, rngX_nat (show ns.length ≤ 16777216 by omega)]
  refine W_forR (fun k ρ B => B = [] ∧ ∃ d s : Int, ∃ x3 x4 : Sl, ρ = [.vl (.list (ns.map .int)), .vl (.int d), .vl (.int s), x3, x4] ∧ 0 ≤ d ∧ 0 ≤ s ∧ s < 2147483647) ⟨rfl, 0, 7, .un, .un, rfl, by decide, by decide, by decide⟩ ?_ ?_
  · rintro i hi ρ B ⟨rfl, d, s, x3, x4, rfl, hd, hs, hs2⟩
    have at1 : atIx (ns.map PyData.int) (i : Int) = some (.int ns[i]) := by rw [atIx_map, atIx_nat hi]; rfl
    generalize ns[i] = z at at1
    generalize hc : (if -1 - z > z then -1 - z else z) = cell
    have c0 : 0 ≤ cell := by rw [← hc]; split <;> omega
    have k1 : mulOk s 48271 = true := mulOk_r (by decide) (by decide)
    generalize hs' : (s * 48271 + cell.fmod 2147483629 + 11).fmod 2147483647 = s'
    have s1 : 0 ≤ s' := by rw [← hs']; exact Int.fmod_nonneg_of_pos _ (by omega)
    have s2 : s' < 2147483647 := by rw [← hs']; exact Int.fmod_lt_of_pos _ (by omega)
    have big : ((10 : Int) ^ 60).natAbs < 2 ^ 4096 := by decide
    have nz : (10 : Int) ^ 60 ≠ 0 := by decide
    by_cases h1 : (10 : Int) ^ 12 ≤ cell
    · by_cases h2 : d < (10 : Int) ^ 60
      · have sm : d.natAbs < 2 ^ 4096 := Nat.lt_trans (show d.natAbs < 10 ^ 60 by omega) (by decide)
        have k2 : mulOk d ((10 : Int) ^ 60) = true := mulOk_w sm big
        have p1 : 0 ≤ cell.fmod (10 ^ 60) := Int.fmod_nonneg_of_pos _ (by decide)
        simp [turn, L__law_pool_0, at1, hc, hs', k1, k2, nz, h1, h2, -Int.reducePow]
        exact ⟨_, _, ⟨rfl, rfl⟩, Int.add_nonneg (Int.mul_nonneg hd (by decide)) p1, s1, s2⟩
      · simp [turn, L__law_pool_0, at1, hc, hs', k1, h1, h2, -Int.reducePow]
        exact ⟨_, _, ⟨rfl, rfl⟩, hd, s1, s2⟩
    · simp [turn, L__law_pool_0, at1, hc, hs', k1, h1, -Int.reducePow]
      exact ⟨_, _, ⟨rfl, rfl⟩, hd, s1, s2⟩
  · rintro ρ B ⟨rfl, d, s, x3, x4, rfl, hd, hs, hs2⟩
    simp
    exact ⟨d, s, 0, rfl, hd, hs, hs2, by decide⟩
end K05
end
section
set_option linter.all false
set_option maxRecDepth 100000
namespace K05
open PySem PySem.W Pv
/-! M10: the same is the same -/
theorem uq_whole_ok {n : Nat} {d : D} {B : Bx} (h : nd d = true) : callF G (n + 1) i__law_uq_is_whole [d] B = .ok (.bool (isIntD d), false) B := by
  rw [call_eq (fd := F__law_uq_is_whole) rfl rfl]
  refine W.eq ?_
  cases d <;> first | (cases h; done) | simp [F__law_uq_is_whole, slots0]
def pairD (d : D) : D := .tuple [d, d]
theorem eqD_self_bool {b : Bool} : eqD (.bool b) (.bool b) = some true := by
  rw [eqD_of rfl rfl (by simp [PyData.depth]), PyData.eqv]; simp
theorem same_step {n : Nat} {x0 x1 s3 s4 s5 s6 : Sl} {ds : List D} {d : D} {B : Bx} (hB : nlB B = true) (h : d.plain = true) (hn : ds.length + nodes d ≤ 16777216) :
    ∃ s3' s4' s5' s6', ∃ es : List D, nodesL es + 1 ≤ nodes d ∧ (∀ e ∈ es, e.plain = true) ∧ ex (callF G (n + 1)) L__law_uq_same_0 [x0, x1, .ow ((ds ++ [d]).map pairD), s3, s4, s5, s6] B = .ok (.nx [x0, x1, .ow ((ds ++ es).map pairD), s3', s4', s5', s6']) B := by
  have key : W (ex (callF G (n + 1)) L__law_uq_same_0 [x0, x1, .ow ((ds ++ [d]).map pairD), s3, s4, s5, s6] B) (fun f B' => B' = B ∧ ∃ s3' s4' s5' s6', ∃ es : List D, (nodesL es + 1 ≤ nodes d ∧ ∀ e ∈ es, e.plain = true) ∧ f = .nx [x0, x1, .ow ((ds ++ es).map pairD), s3', s4', s5', s6']) NoX := by
    rw [List.map_append, List.map_singleton]
    have nil : ∀ d : D, nodesL [] + 1 ≤ nodes d ∧ ∀ e ∈ ([] : List D), e.plain = true := fun d => ⟨by have := nodes_pos d; simp [nodesL]; omega, by simp⟩
    have fin : ∀ es : List D, nodesL es + 1 ≤ nodes d → es.length < 16777216 := fun es h => by have := nodesL_len es; omega
    cases d with
    | dict _ => simp [PyData.plain] at h
    | none => simp [L__law_uq_same_0, pairD]; exact ⟨_, _, _, _, [], nil _, by simp; exact ⟨rfl, rfl, rfl, rfl⟩⟩
    | bool b => simp [L__law_uq_same_0, pairD, eqD_self_bool]; exact ⟨_, _, _, _, [], nil _, by simp; exact ⟨rfl, rfl, rfl, rfl⟩⟩
    | int i => simp [L__law_uq_same_0, pairD, uq_whole_ok]; exact ⟨_, _, _, _, [], nil _, by simp; exact ⟨rfl, rfl, rfl, rfl⟩⟩
    | str s => simp [L__law_uq_same_0, pairD]; exact ⟨_, _, _, _, [], nil _, by simp; exact ⟨rfl, rfl, rfl, rfl⟩⟩
    | list xs =>
      have hl := nodesL_len xs
      simp [nodes] at hn
      simp [L__law_uq_same_0, pairD, rngX_nat (show xs.length ≤ 16777216 by omega)]
      refine W_lcm (u := fun (i : Nat) => pairD (xs.getD i .none)) (fun i hi => W.eq ?_) ?_
      · have hi' := List.mem_range.mp hi
        simp [m_lcF, atIx_nat hi', pairD, hi']
      · have e : (List.range xs.length).map (fun (i : Nat) => pairD (xs.getD i .none)) = xs.map pairD := by
          apply List.ext_getElem
          · simp
          · intro i h1 h2
            simp at h1
            simp [h1]
        rw [e]
        simp [show ds.length + xs.length ≤ 16777216 by omega]
        exact ⟨_, _, _, _, xs, ⟨by simp [nodes], by simpa [PyData.plain, plainAll_iff] using h⟩, ⟨rfl, rfl, rfl, rfl, rfl⟩⟩
    | tuple xs =>
      have hl := nodesL_len xs
      simp [nodes] at hn
      simp [L__law_uq_same_0, pairD, rngX_nat (show xs.length ≤ 16777216 by omega)]
      refine W_lcm (u := fun (i : Nat) => pairD (xs.getD i .none)) (fun i hi => W.eq ?_) ?_
      · have hi' := List.mem_range.mp hi
        simp [m_lcF, atIx_nat hi', pairD, hi']
      · have e : (List.range xs.length).map (fun (i : Nat) => pairD (xs.getD i .none)) = xs.map pairD := by
          apply List.ext_getElem
          · simp
          · intro i h1 h2
            simp at h1
            simp [h1]
        rw [e]
        simp [show ds.length + xs.length ≤ 16777216 by omega]
        exact ⟨_, _, _, _, xs, ⟨by simp [nodes], by simpa [PyData.plain, plainAll_iff] using h⟩, ⟨rfl, rfl, rfl, rfl, rfl⟩⟩
  obtain ⟨f, B', e, rfl, s3', s4', s5', s6', es, ⟨h1, h2⟩, rfl⟩ := key.ex
  exact ⟨s3', s4', s5', s6', es, h1, h2, e⟩
theorem plainAll_pairs {ds : List D} (h : ∀ d ∈ ds, d.plain = true) : PyData.plainAll (ds.map pairD) = true := plainAll_map' fun d hd => by simp [pairD, PyData.plain, PyData.plainAll, h d hd]
theorem same_walk {n : Nat} {x0 x1 : Sl} {B : Bx} (hB : nlB B = true) : ∀ (fuel : Nat) {ds : List D} {s3 s4 s5 s6 : Sl}, (∀ d ∈ ds, d.plain = true) → nodesL ds < fuel → nodesL ds ≤ 16777216 →
    W (whileL (evW (callF G (n + 1)) (.cmp .NotEq (.v 2) (.lst .nil))) (exW (callF G (n + 1)) L__law_uq_same_0) fuel [x0, x1, .ow (ds.map pairD), s3, s4, s5, s6] B) (fun f B' => B' = B ∧ ∃ ρ, f = .nx ρ) NoX
  | 0, _, _, _, _, _, _, h, _ => absurd h (Nat.not_lt_zero _)
  | fuel + 1, ds, s3, s4, s5, s6, hp, hf, hm => by
    rw [whileL, W_bind]
    have ne : ∀ ρ1 : List Sl, ρ1 = [x0, x1, .ow (ds.map pairD), s3, s4, s5, s6] → evW (callF G (n + 1)) (.cmp .NotEq (.v 2) (.lst .nil)) ρ1 B = .ok (.bool (!(ds.map pairD).isEmpty), false) B := by
      rintro _ rfl
      simp [evW, eqD_nilL (plainAll_pairs hp)]
    rw [ne _ rfl]
    rcases List.eq_nil_or_concat ds with rfl | ⟨es, d, rfl⟩
    · simp
    · rw [List.concat_eq_append] at *
      have he : ((es ++ [d]).map pairD).isEmpty = false := by cases es <;> rfl
      rw [he]
      rw [W_ok]
      show W ((ex (callF G (n + 1)) L__law_uq_same_0 [x0, x1, .ow ((es ++ [d]).map pairD), s3, s4, s5, s6] B).bind _) _ _
      have hm' := hm
      rw [nodesL_append, nodesL, nodesL, Nat.add_zero] at hm' hf
      have hd := hp d (by simp)
      have := nodesL_len es
      obtain ⟨s3', s4', s5', s6', fs, h1, h2, e⟩ := same_step (n := n) (x0 := x0) (x1 := x1) (s3 := s3) (s4 := s4) (s5 := s5) (s6 := s6) (ds := es) (d := d) hB hd (by omega)
      rw [e, W_bind, W_ok]
      refine same_walk hB fuel (ds := es ++ fs) ?_ ?_ ?_
      · intro x hx
        rcases List.mem_append.mp hx with hx | hx
        · exact hp x (by simp [hx])
        · exact h2 x hx
      · rw [nodesL_append]; omega
      · rw [nodesL_append]; omega
theorem same_ok {n : Nat} {x : D} {B : Bx} (hB : nlB B = true) (h : x.plain = true) (hn : nodes x < 16777216) : callF G (n + 2) i__law_uq_same [x, x] B = .ok (.bool true, false) B := by
  rw [call_eq (fd := F__law_uq_same) rfl rfl]
  refine W.eq ?_
  simp [F__law_uq_same, slots0, hB]
  have := same_walk (n := n) (x0 := .vl x) (x1 := .vl x) (B := B) hB fuelW (ds := [x]) (s3 := .un) (s4 := .un) (s5 := .un) (s6 := .un) (by simpa using h) (by simp [nodesL, fuelW]; omega) (by simp [nodesL]; omega)
  refine W.use this ?_
  rintro f B' ⟨rfl, ρ, rfl⟩
  simp
end K05
end
section
set_option linter.all false
set_option maxRecDepth 100000
namespace Pv
open PySem PySem.W
/-! M11: lots within one another -/
abbrev Inc (l : List Int) : Prop := l.Pairwise (· < ·)
theorem inc_ext : ∀ {a b : List Int}, Inc a → Inc b → (∀ x, x ∈ a ↔ x ∈ b) → a = b
  | [], [], _, _, _ => rfl
  | [], y :: _, _, _, h => absurd ((h y).mpr List.mem_cons_self) (List.not_mem_nil)
  | x :: _, [], _, _, h => absurd ((h x).mp List.mem_cons_self) (List.not_mem_nil)
  | x :: a, y :: b, ha, hb, h => by
    obtain ⟨ha1, ha2⟩ := List.pairwise_cons.mp ha
    obtain ⟨hb1, hb2⟩ := List.pairwise_cons.mp hb
    have e : x = y := by
      have h1 := (h x).mp List.mem_cons_self
      have h2 := (h y).mpr List.mem_cons_self
      rcases List.mem_cons.mp h1 with e | h1
      · exact e
      · rcases List.mem_cons.mp h2 with e | h2
        · exact e.symm
        · have := hb1 x h1; have := ha1 y h2; omega
    subst e
    congr 1
    refine inc_ext ha2 hb2 fun z => ⟨fun hz => ?_, fun hz => ?_⟩
    · rcases List.mem_cons.mp ((h z).mp (List.mem_cons_of_mem _ hz)) with e | h'
      · have := ha1 z hz; omega
      · exact h'
    · rcases List.mem_cons.mp ((h z).mpr (List.mem_cons_of_mem _ hz)) with e | h'
      · have := hb1 z hz; omega
      · exact h'
theorem inc_rise {n : Int} : ∀ {l : List Int} {k : Int}, Inc l → (∀ x ∈ l, k ≤ x ∧ x < n) → Rise n k l
  | [], _, _, _ => trivial
  | x :: l, k, h, hm => by
    obtain ⟨h1, h2⟩ := List.pairwise_cons.mp h
    obtain ⟨h3, h4⟩ := hm x List.mem_cons_self
    exact ⟨h3, h4, inc_rise h2 fun y hy => ⟨by have := h1 y hy; omega, (hm y (List.mem_cons_of_mem _ hy)).2⟩⟩
theorem Rise.inc {n : Int} : ∀ {l : List Int} {k : Int}, Rise n k l → Inc l
  | [], _, _ => List.Pairwise.nil
  | x :: l, k, ⟨_, _, h⟩ => List.pairwise_cons.mpr ⟨fun y hy => by have := (h.mem y hy).1; omega, h.inc⟩
/-- one lot in the other, or apart -/
def Nest (a b : List Int) : Prop := (∀ x ∈ a, x ∈ b) ∨ (∀ x ∈ b, x ∈ a) ∨ ∀ x ∈ a, x ∉ b
theorem Nest.symm {a b : List Int} : Nest a b → Nest b a
  | .inl h => .inr (.inl h)
  | .inr (.inl h) => .inl h
  | .inr (.inr h) => .inr (.inr fun x hx hy => h x hy hx)
theorem inc_sub_len {a b : List Int} (ha : Inc a) (hb : Inc b) (h : ∀ x ∈ a, x ∈ b) : a.length ≤ b.length := by
  have : a = b.filter (fun x => decide (x ∈ a)) := inc_ext ha (hb.sublist List.filter_sublist) fun x => by
    simp only [List.mem_filter, decide_eq_true_eq]
    exact ⟨fun hx => ⟨h x hx, hx⟩, fun hx => hx.2⟩
  rw [this]
  exact List.length_filter_le _ _
theorem nestedB_of {a b : List Int} (ha : Inc a) (hb : Inc b) (h : Nest a b) : nestedB a b = true := by
  unfold nestedB
  simp only [Bool.or_eq_true, List.isEmpty_iff, decide_eq_true_eq]
  rcases h with h | h | h
  · right
    have e : a.filter (fun x => decide (x ∈ b)) = a := List.filter_eq_self.mpr fun x hx => by simpa using h x hx
    rw [e]
    have := inc_sub_len ha hb h
    omega
  · right
    have e : a.filter (fun x => decide (x ∈ b)) = b := inc_ext (ha.sublist List.filter_sublist) hb fun x => by
      simp only [List.mem_filter, decide_eq_true_eq]
      exact ⟨fun hx => hx.2, fun hx => ⟨h x hx, hx⟩⟩
    rw [e]
    have := inc_sub_len hb ha h
    omega
  · left
    rw [List.filter_eq_nil_iff]
    intro x hx
    simpa using h x hx
theorem perm_map_inv {α β : Type} {f : α → β} {ys l : List β} (h : ys.Perm l) : ∀ {xs : List α}, l = xs.map f → ∃ zs : List α, ys = zs.map f ∧ zs.Perm xs := by
  induction h with
  | nil => intro xs e; cases xs with
    | nil => exact ⟨[], rfl, .nil⟩
    | cons _ _ => cases e
  | cons a _ ih => intro xs e; cases xs with
    | nil => cases e
    | cons x xs =>
      rw [List.map_cons, List.cons.injEq] at e
      obtain ⟨zs, h1, h2⟩ := ih e.2
      exact ⟨x :: zs, by rw [List.map_cons, h1, e.1], h2.cons x⟩
  | swap a b l => intro xs e; match xs, e with
    | [], e => cases e
    | [x], e => cases e
    | x :: y :: xs, e =>
      rw [List.map_cons, List.map_cons, List.cons.injEq, List.cons.injEq] at e
      exact ⟨y :: x :: xs, by rw [List.map_cons, List.map_cons, e.1, e.2.1, e.2.2], .swap _ _ _⟩
  | trans _ _ ih1 ih2 =>
    intro xs e
    obtain ⟨zs, h1, h2⟩ := ih2 e
    obtain ⟨ws, h3, h4⟩ := ih1 h1
    exact ⟨ws, h3, h4.trans h2⟩
/-! sorted -/
theorem sort_ints (l : List Int) : (l.map PyData.int).mergeSort (dataLe false id) = (l.mergeSort (fun a b => decide (a ≤ b))).map .int := by
  refine (List.map_mergeSort fun a _ b _ => ?_).symm
  exact (congrFun (congrFun (dataLe_int (fun (x : Int) => x)) a) b).symm
theorem dataLe_lots (a b : List Int) : dataLe false id (PyData.tuple (a.map .int)) (PyData.tuple (b.map .int)) = decide (a ≤ b) :=
  congrFun (congrFun (dataLe_rows (fun (x : List Int) => x)) a) b
theorem sort_lots (l : List (List Int)) : (l.map dT).mergeSort (dataLe false id) = (l.mergeSort (fun a b => decide (a ≤ b))).map dT := by
  refine (List.map_mergeSort fun a _ b _ => ?_).symm
  exact (dataLe_lots a b).symm
theorem lexLt_iff : ∀ {a b : List Int}, lexLt a b = true ↔ a < b
  | [], [] => by simp [lexLt]
  | [], _ :: _ => by simp [lexLt]
  | _ :: _, [] => by simp [lexLt]
  | a :: as, b :: bs => by
    rw [lexLt, List.cons_lt_cons_iff]
    by_cases h : a = b
    · subst h
      simp [lexLt_iff]
    · simp [h]
theorem ints_le_total (a b : List Int) : (decide (a ≤ b) || decide (b ≤ a)) = true := by
  simp only [Bool.or_eq_true, decide_eq_true_eq]; exact List.le_total a b
theorem ints_le_trans (a b c : List Int) (h1 : decide (a ≤ b) = true) (h2 : decide (b ≤ c) = true) : decide (a ≤ c) = true := by
  simp only [decide_eq_true_eq] at *; exact List.le_trans h1 h2
theorem int_sort (l : List Int) (h : l.Nodup) : Inc (l.mergeSort (fun a b => decide (a ≤ b))) := by
  have h1 := List.pairwise_mergeSort (le := fun (a b : Int) => decide (a ≤ b)) (fun a b c h1 h2 => by simp at *; omega) (fun a b => by simp; omega) l
  have h2 : (l.mergeSort (fun a b => decide (a ≤ b))).Nodup := (List.mergeSort_perm l _).nodup_iff.mpr h
  exact (h1.and h2).imp fun ⟨h1, h2⟩ => by simp at h1; omega
/-- what lots of a land keep -/
structure LotsIn (many : Nat) (lots : List (List Int)) : Prop where
  form : ∀ m ∈ lots, Inc m ∧ 2 ≤ m.length ∧ m.length < many ∧ ∀ x ∈ m, 0 ≤ x ∧ x < many
  nest : lots.Pairwise fun a b => Nest a b ∧ a ≠ b
theorem lots_sort {many : Nat} {lots : List (List Int)} (h : LotsIn many lots) :
    LotsIn many (lots.mergeSort (fun a b => decide (a ≤ b))) ∧ (lots.mergeSort (fun a b => decide (a ≤ b))).Pairwise fun a b => lexLt a b = true := by
  have p := List.mergeSort_perm lots (fun a b => decide (a ≤ b))
  have h1 := List.pairwise_mergeSort ints_le_trans ints_le_total lots
  have h2 : (lots.mergeSort (fun a b => decide (a ≤ b))).Pairwise fun a b => Nest a b ∧ a ≠ b := (p.pairwise_iff (fun ⟨h1, h2⟩ => ⟨h1.symm, fun e => h2 e.symm⟩)).mpr h.nest
  refine ⟨⟨fun m hm => h.form m (p.mem_iff.mp hm), h2⟩, (h1.and h2).imp fun {a b} ⟨h1, _, h3⟩ => ?_⟩
  rw [lexLt_iff]
  simp only [decide_eq_true_eq] at h1
  exact Decidable.byContradiction fun h4 => h3 (List.le_antisymm h1 (List.not_lt.mp h4))
/-! groups, put together -/
structure Nesting (many : Nat) (groups made : List (List Int)) : Prop where
  all : groups.flatten.Perm ((List.range many).map fun (i : Nat) => (i : Int))
  grp : ∀ g ∈ groups, g ≠ []
  inc : ∀ m ∈ made, Inc m ∧ 2 ≤ m.length ∧ m.length < many
  sub : ∀ m ∈ made, ∃ g ∈ groups, ∀ x ∈ m, x ∈ g
  nest : made.Pairwise fun a b => Nest a b ∧ a ≠ b
theorem range_nodup (n : Nat) : ((List.range n).map fun (i : Nat) => (i : Int)).Nodup := by
  refine List.Pairwise.map _ (R := (· ≠ ·)) (fun a b h e => h (by omega)) ?_
  exact List.nodup_range
theorem Nesting.mix {many : Nat} {groups groups' made : List (List Int)} (h : Nesting many groups made) (p : groups'.Perm groups) : Nesting many groups' made :=
  ⟨p.flatten.trans h.all, fun g hg => h.grp g (p.mem_iff.mp hg), h.inc, fun m hm => by obtain ⟨g, hg, hs⟩ := h.sub m hm; exact ⟨g, p.mem_iff.mpr hg, hs⟩, h.nest⟩
theorem Nesting.lots {many : Nat} {groups made : List (List Int)} (h : Nesting many groups made) : LotsIn many made := by
  refine ⟨fun m hm => ?_, h.nest⟩
  obtain ⟨h1, h2, h3⟩ := h.inc m hm
  refine ⟨h1, h2, h3, fun x hx => ?_⟩
  obtain ⟨g, hg, hs⟩ := h.sub m hm
  have := h.all.mem_iff.mp (List.mem_flatten.mpr ⟨g, hg, hs x hx⟩)
  obtain ⟨i, hi, rfl⟩ := List.mem_map.mp this
  have := List.mem_range.mp hi
  omega
theorem Nesting.put {many : Nat} {groups made : List (List Int)} {k : Nat} {s : List Int} (h : Nesting many groups made) (k2 : 2 ≤ k) (hk : k ≤ groups.length) (hs : s.Perm (groups.take k).flatten) (hi : Inc s) (hl : s.length < many) : Nesting many (groups.drop k ++ [s]) (made ++ [s]) := by
  have hsplit : groups = groups.take k ++ groups.drop k := (List.take_append_drop k groups).symm
  have nd : groups.flatten.Nodup := h.all.nodup_iff.mpr (range_nodup many)
  have nd2 := List.pairwise_flatten.mp nd
  have mem_s : ∀ x, x ∈ s ↔ ∃ g ∈ groups.take k, x ∈ g := fun x => by rw [hs.mem_iff, List.mem_flatten]
  have apart : ∀ g ∈ groups.take k, ∀ g' ∈ groups.drop k, ∀ x ∈ g, x ∉ g' := by
    have := nd2.2
    rw [hsplit, List.pairwise_append] at this
    intro g hg g' hg' x hx hx'
    exact this.2.2 g hg g' hg' x hx x hx' rfl
  match hgr : groups, k2, hk with
  | [], k2, hk => simp at hk; omega
  | [_], k2, hk => simp at hk; omega
  | g1 :: g2 :: gs, k2, hk =>
    obtain ⟨j, rfl⟩ : ∃ j, k = j + 2 := ⟨k - 2, by omega⟩
    have hn1 := h.grp g1 (by simp)
    have hn2 := h.grp g2 (by simp)
    obtain ⟨x1, hx1⟩ := List.exists_mem_of_ne_nil g1 hn1
    obtain ⟨x2, hx2⟩ := List.exists_mem_of_ne_nil g2 hn2
    have s1 : x1 ∈ s := (mem_s x1).mpr ⟨g1, by simp, hx1⟩
    have s2 : x2 ∈ s := (mem_s x2).mpr ⟨g2, by simp, hx2⟩
    have d12 : ∀ x ∈ g1, x ∉ g2 := by
      have := (List.pairwise_cons.mp nd2.2).1 g2 (by simp)
      intro x hx hx'
      exact this x hx x hx' rfl
    have len2 : 2 ≤ s.length := by
      rw [hs.length_eq]
      simp only [List.take_succ_cons, List.flatten_cons, List.length_append]
      have := List.length_pos_iff.mpr hn1
      have := List.length_pos_iff.mpr hn2
      omega
    have key : ∀ m ∈ made, Nest m s ∧ m ≠ s := by
      intro m hm
      obtain ⟨g, hg, hsub⟩ := h.sub m hm
      rw [hsplit] at hg
      rcases List.mem_append.mp hg with hg | hg
      · refine ⟨.inl fun x hx => (mem_s x).mpr ⟨g, hg, hsub x hx⟩, fun e => ?_⟩
        have m1 : x1 ∈ g := hsub x1 (by rw [e]; exact s1)
        have m2 : x2 ∈ g := hsub x2 (by rw [e]; exact s2)
        have nd3 := nd2.2
        have gm : g ∈ g1 :: g2 :: gs := List.mem_of_mem_take hg
        rcases List.mem_cons.mp gm with e1 | gm
        · rw [e1] at m2; exact d12 x2 m2 hx2
        · exact (List.pairwise_cons.mp nd3).1 g gm x1 hx1 x1 m1 rfl
      · refine ⟨.inr (.inr fun x hx hx' => ?_), fun e => ?_⟩
        · obtain ⟨g', hg', hx''⟩ := (mem_s x).mp hx'
          exact apart g' hg' g hg x hx'' (hsub x hx)
        · have : x1 ∈ g := hsub x1 (by rw [e]; exact s1)
          exact apart g1 (by simp) g hg x1 hx1 this
    refine ⟨?_, ?_, ?_, ?_, ?_⟩
    · refine List.Perm.trans ?_ h.all
      rw [List.flatten_append, List.flatten_singleton]
      refine List.perm_append_comm.trans ?_
      have e : (g1 :: g2 :: gs).flatten = ((g1 :: g2 :: gs).take (j + 2)).flatten ++ ((g1 :: g2 :: gs).drop (j + 2)).flatten := by
        rw [← List.flatten_append, List.take_append_drop]
      rw [e]
      exact hs.append (List.Perm.refl _)
    · intro g hg
      rcases List.mem_append.mp hg with hg | hg
      · exact h.grp g (List.mem_of_mem_drop hg)
      · rw [List.mem_singleton.mp hg]; intro e; rw [e] at s1; cases s1
    · intro m hm
      rcases List.mem_append.mp hm with hm | hm
      · exact h.inc m hm
      · rw [List.mem_singleton.mp hm]; exact ⟨hi, len2, hl⟩
    · intro m hm
      rcases List.mem_append.mp hm with hm | hm
      · obtain ⟨g, hg, hsub⟩ := h.sub m hm
        rw [hsplit] at hg
        rcases List.mem_append.mp hg with hg | hg
        · exact ⟨s, by simp, fun x hx => (mem_s x).mpr ⟨g, hg, hsub x hx⟩⟩
        · exact ⟨g, List.mem_append_left _ hg, hsub⟩
      · rw [List.mem_singleton.mp hm]; exact ⟨s, by simp, fun x hx => hx⟩
    · rw [List.pairwise_append]
      exact ⟨h.nest, List.pairwise_singleton _ _, fun a ha b hb => by rw [List.mem_singleton.mp hb]; exact key a ha⟩
end Pv
end
section
set_option linter.all false
set_option maxRecDepth 100000
namespace Pv
open PySem PySem.W
theorem allAlike_map {α : Type} {e : α → D} {xs : List α} (h : ∀ a b, alike (e a) (e b) = true) : allAlike (xs.map e) = true := by
  unfold allAlike
  rw [List.all_eq_true]
  intro x hx
  rw [List.all_eq_true]
  intro y hy
  obtain ⟨a, _, rfl⟩ := List.mem_map.mp hx
  obtain ⟨b, _, rfl⟩ := List.mem_map.mp hy
  exact h a b
theorem sorted_ints (l : List Int) : sortedD [.list (l.map .int)] = some (.list ((l.mergeSort (fun a b => decide (a ≤ b))).map .int), true) := by
  have h1 : allAlike (l.map PyData.int) = true := allAlike_map fun a b => by simp [alike]
  have h2 : sortable (l.map PyData.int) = true := by
    unfold sortable
    rw [Bool.or_eq_true]
    right
    rw [List.all_eq_true]
    intro x hx
    obtain ⟨a, _, rfl⟩ := List.mem_map.mp hx
    rfl
  unfold sortedD
  simp only [h1, h2, depth_ints, plainAll_ints, sort_ints]
  simp
theorem depthAll_le {k : Nat} : ∀ {xs : List D}, (∀ x ∈ xs, x.depth ≤ k) → PyData.depthAll xs ≤ k
  | [], _ => Nat.zero_le _
  | x :: xs, h => by
    rw [PyData.depthAll]
    exact Nat.max_le.mpr ⟨h x List.mem_cons_self, depthAll_le fun y hy => h y (List.mem_cons_of_mem _ hy)⟩
theorem depth_dT (l : List Int) : (dT l).depth = 1 := by
  unfold dT
  rw [PyData.depth, depth_ints]
theorem sorted_lots {l : List (List Int)} (hn : ∀ m ∈ l, m ≠ []) : sortedD [.list (l.map dT)] = some (.list ((l.mergeSort (fun a b => decide (a ≤ b))).map dT), true) := by
  have h1 : allAlike (l.map dT) = true := allAlike_map fun a b => by simp [alike, dT, alike_ints]
  have h2 : sortable (l.map dT) = true := by
    unfold sortable
    rw [Bool.or_eq_true]
    left
    rw [List.all_eq_true]
    intro x hx
    obtain ⟨a, ha, rfl⟩ := List.mem_map.mp hx
    cases a with
    | nil => exact absurd rfl (hn [] ha)
    | cons _ _ => rfl
  have h3 : PyData.depthAll (l.map dT) ≤ 64 := depthAll_le fun x hx => by
    obtain ⟨a, ha, rfl⟩ := List.mem_map.mp hx
    rw [depth_dT]; omega
  have h4 : PyData.plainAll (l.map dT) = true := plainAll_map' fun _ _ => plain_dT
  unfold sortedD
  simp only [h1, h2, h4, sort_lots, decide_eq_true h3]
  simp
end Pv
end
section
set_option linter.all false
set_option maxRecDepth 100000
namespace K05
open PySem PySem.W Pv
theorem nest_take {n : Nat} {gs : List (List Int)} {x0 x1 x2 x4 x5 x6 x8 x9 : Sl} {k : Nat} {B : Bx} {Q : Fl → Bx → Prop} (hl : (gs.take k).flatten.length ≤ 10000)
    (q : ∀ x8, Q (.nx [x0, x1, x2, .vl (.list (gs.map dT)), x4, x5, x6, .ow ((gs.take k).flatten.map .int), x8, x9]) B) :
    W (forL (turn (callF G n) (.n 8) L__law_uw_nest_0) ((gs.take k).map dT) [x0, x1, x2, .vl (.list (gs.map dT)), x4, x5, x6, .ow [], x8, x9] B) Q NoX := by
  refine W_for (fun i ρ B' => B' = B ∧ ∃ x8, ρ = [x0, x1, x2, .vl (.list (gs.map dT)), x4, x5, x6, .ow (((gs.take k).take i).flatten.map .int), x8, x9]) 0 ⟨rfl, x8, rfl⟩ ?_ ?_
  · rintro i hi ρ B' ⟨rfl, x8, rfl⟩
    rw [Nat.zero_add] at *
    have e : ((gs.take k).take (i + 1)).flatten = ((gs.take k).take i).flatten ++ (gs.take k)[i] := by
      rw [List.take_succ_eq_append_getElem hi, List.flatten_append, List.flatten_singleton]
    have le : ((gs.take k).take i).flatten.length + ((gs.take k)[i]).length ≤ (gs.take k).flatten.length := by
      rw [← List.length_append, ← e]
      conv => rhs; rw [← List.take_append_drop (i + 1) (gs.take k)]
      rw [List.flatten_append, List.length_append]
      omega
    rw [e]
    generalize (gs.take k)[i] = g at le
    generalize ((gs.take k).take i).flatten = one at le
    simp [turn, L__law_uw_nest_0, dT, (show one.length + g.length ≤ 16777216 by omega)]
  · rintro ρ B' ⟨rfl, x8, rfl⟩
    rw [Nat.zero_add, List.take_length]
    exact q x8
theorem nodup_perm_sort {l : List Int} (h : l.Nodup) : Inc (l.mergeSort (fun a b => decide (a ≤ b))) := int_sort l h
theorem flat_take_nodup {groups : List (List Int)} {k : Nat} (h : groups.flatten.Nodup) : (groups.take k).flatten.Nodup := by
  have e : groups.flatten = (groups.take k).flatten ++ (groups.drop k).flatten := by rw [← List.flatten_append, List.take_append_drop]
  rw [e] at h
  exact (List.nodup_append.mp h).1
theorem nest_step {n many : Nat} {groups made : List (List Int)} {x2 x5 x6 x7 x8 x9 : Sl} {B : Bx} (hB : JarOk B) (hm : many ≤ 1000) (h : Nesting many groups made) (hg : groups.length ≤ 1000) (hd : made.length ≤ 1000) :
    W (ex (callF G (n + 2)) L__law_uw_nest_1 [.vl (bref 0), .vl (.int many), x2, .vl (.list (groups.map dT)), .ow (made.map dT), x5, x6, x7, x8, x9] B)
      (fun f B' => JarOk B' ∧ ∃ groups' made' : List (List Int), ∃ x6 x7 x8, f = .nx [.vl (bref 0), .vl (.int many), x2, .vl (.list (groups'.map dT)), .ow (made'.map dT), x5, x6, x7, x8, x9] ∧ Nesting many groups' made' ∧ groups'.length ≤ groups.length ∧ made'.length ≤ made.length + 1) NoX := by
  simp [L__law_uw_nest_1]
  refine (take_W hB (by omega) (by omega)).use ?_
  rintro r B' ⟨jB, v, rfl, v1, v2⟩
  simp
  by_cases hc : 2 + v ≤ (groups.length : Int)
  · simp [hc]
    have hlen : (groups.map dT).length ≤ 10000 := by
      rw [List.length_map]
      exact Nat.le_trans hg (by decide)
    have hmx := mixed_W (n := n) (X := NoX) jB hlen
    refine W.use hmx ?_
    rintro r B2 ⟨jB2, ys, rfl, hp⟩
    obtain ⟨gs, rfl, hp2⟩ := perm_map_inv (f := dT) (xs := groups) hp rfl
    have h' := h.mix hp2
    have hgl : gs.length = groups.length := hp2.length_eq
    have fl : (gs.take (2 + v).toNat).flatten.length ≤ many := by
      have e : gs.flatten = (gs.take (2 + v).toNat).flatten ++ (gs.drop (2 + v).toNat).flatten := by rw [← List.flatten_append, List.take_append_drop]
      have := congrArg List.length e
      rw [List.length_append, h'.all.length_eq, List.length_map, List.length_range] at this
      omega
    have k2 : 2 ≤ (2 + v).toNat := by omega
    have kl : (2 + v).toNat ≤ gs.length := by omega
    simp [jB2.nl, cut_take (show 0 ≤ 2 + v by omega), ← List.map_take]
    refine nest_take (by omega) fun x8' => ?_
    have nd : gs.flatten.Nodup := h'.all.nodup_iff.mpr (range_nodup many)
    have hperm := List.mergeSort_perm (gs.take (2 + v).toNat).flatten (fun a b => decide (a ≤ b))
    have hinc := nodup_perm_sort (flat_take_nodup (k := (2 + v).toNat) nd)
    have hput : (gs.take (2 + v).toNat).flatten.length < many → Nesting many (gs.drop (2 + v).toNat ++ [(gs.take (2 + v).toNat).flatten.mergeSort (fun a b => decide (a ≤ b))]) (made ++ [(gs.take (2 + v).toNat).flatten.mergeSort (fun a b => decide (a ≤ b))]) := fun hc2 => h'.put k2 kl hperm hinc (by rw [hperm.length_eq]; exact hc2)
    generalize (gs.take (2 + v).toNat).flatten = one at *
    simp
    by_cases hc2 : one.length < many
    · have hn := hput hc2
      simp [hc2, sorted_ints, cut_drop (show 0 ≤ 2 + v by omega), ← List.map_drop, show made.length < 16777216 by omega]
      rw [if_pos (by omega)]
      simp
      refine ⟨jB2, gs.drop (2 + v).toNat ++ [one.mergeSort (fun a b => decide (a ≤ b))], made ++ [one.mergeSort (fun a b => decide (a ≤ b))], ⟨by simp [dT], by simp [dT]⟩, hn, ?_, by simp⟩
      simp
      omega
    · simp [hc2]
      exact ⟨jB2, gs, made, ⟨rfl, rfl⟩, h', by omega, by omega⟩
  · simp [hc]
    exact ⟨jB, groups, made, ⟨rfl, rfl⟩, h, by omega, by omega⟩
end K05
end
section
set_option linter.all false
set_option maxRecDepth 100000
namespace K05
open PySem PySem.W Pv
theorem nest_W {n many : Nat} {B : Bx} {X : Nat → D → Bx → Prop} (hB : JarOk B) (hm : many ≤ 40) : W (callF G (n + 3) i__law_uw_nest [bref 0, .int many, .list ((List.range many).map fun (i : Nat) => .int (i : Int))] B)
    (fun r B' => JarOk B' ∧ ∃ lots : List (List Int), r = (.list (lots.map dT), true) ∧ LotsIn many lots ∧ lots.Pairwise (fun a b => Pv.lexLt a b = true) ∧ lots.length ≤ 40) X := by
  rw [call_eq (fd := F__law_uw_nest) rfl rfl]
  simp [F__law_uw_nest, slots0]
  have hl : ((List.range many).map fun (i : Nat) => PyData.int (i : Int)).length ≤ 10000 := by rw [List.length_map, List.length_range]; omega
  refine (mixed_W hB hl).use ?_
  rintro r B1 ⟨jB1, ys, rfl, hp⟩
  have e0 : ((List.range many).map fun (i : Nat) => PyData.int (i : Int)) = ((List.range many).map fun (i : Nat) => (i : Int)).map .int := by rw [List.map_map]; rfl
  rw [e0] at hp
  obtain ⟨zs, rfl, hp2⟩ := perm_map_inv (f := PyData.int) hp rfl
  have hzl : zs.length = many := by rw [hp2.length_eq, List.length_map, List.length_range]
  simp
  refine W_lcm (e := PyData.int) (u := fun z => dT [z]) (fun z _ => W.eq (by simp [m_lcF, dT])) ?_
  have n0 : Nesting many (zs.map fun z => [z]) [] := by
    refine ⟨?_, ?_, by simp, by simp, List.Pairwise.nil⟩
    · have : (zs.map fun z => [z]).flatten = zs := by
        rw [← List.flatMap_def]; simp
      rw [this]; exact hp2
    · intro g hg
      obtain ⟨z, _, rfl⟩ := List.mem_map.mp hg
      simp
  have e1 : (zs.map fun z => dT [z]) = (zs.map fun z => [z]).map dT := by rw [List.map_map]; rfl
  rw [e1]
  have gl : (zs.map fun z => [z]).length ≤ 40 := by rw [List.length_map]; omega
  generalize (zs.map fun z => [z]) = groups at n0 gl
  simp [jB1.nl]
  refine (one_W jB1 (by simp) (by simp)).use ?_
  rintro r B2 ⟨jB2, d, hd, rfl⟩
  have hv : ∃ v : Nat, d = .int (v : Int) ∧ v ≤ 40 := by
    simp at hd
    rcases hd with rfl | rfl | rfl | rfl | rfl | rfl <;> first | exact ⟨0, rfl, by omega⟩ | exact ⟨1, rfl, by omega⟩ | exact ⟨2, rfl, by omega⟩ | exact ⟨3, rfl, by omega⟩ | exact ⟨5, rfl, by omega⟩ | exact ⟨many, rfl, by omega⟩
  obtain ⟨v, rfl, hv⟩ := hv
  simp [rngX_nat (show v ≤ 16777216 by omega)]
  refine W_forR (fun k ρ B => JarOk B ∧ ∃ groups made : List (List Int), ∃ x2 x5 x6 x7 x8 x9, ρ = [.vl (bref 0), .vl (.int many), x2, .vl (.list (groups.map dT)), .ow (made.map dT), x5, x6, x7, x8, x9] ∧ Nesting many groups made ∧ groups.length ≤ 40 ∧ made.length ≤ k)
    ⟨jB2, groups, [], _, _, _, _, _, _, rfl, n0, gl, Nat.le_refl _⟩ ?_ ?_
  · rintro k hk ρ B ⟨jB, groups, made, x2, x5, x6, x7, x8, x9, rfl, hn, h1, h2⟩
    simp [turn]
    refine (nest_step jB (by omega) hn (by omega) (by omega)).use ?_
    rintro f B' ⟨jB', groups', made', x6, x7, x8, rfl, hn', h1', h2'⟩
    exact ⟨jB', groups', made', ⟨_, _, _, _, _, _, rfl⟩, hn', by omega, by omega⟩
  · rintro ρ B ⟨jB, groups, made, x2, x5, x6, x7, x8, x9, rfl, hn, h1, h2⟩
    have hne : ∀ m ∈ made, m ≠ [] := fun m hm e => by have := (hn.inc m hm).2.1; rw [e] at this; simp at this
    obtain ⟨l1, l2⟩ := lots_sort hn.lots
    simp [sorted_lots hne]
    exact ⟨jB, _, rfl, l1, l2, by rw [List.length_mergeSort]; omega⟩
end K05
end
section
set_option linter.all false
set_option maxRecDepth 100000
namespace Pv
open PySem PySem.W
theorem rgsOk_of {ps : List Pl} : ∀ {rs ah : List Rg}, (∀ r ∈ rs, RgForm ps.length r ∧ noRooms ps r.1 = true) → (ah ++ rs).Pairwise (fun a b => Pv.lexLt a.1 b.1 = true ∧ nestedB b.1 a.1 = true) → RgsOk ps ah rs
  | [], _, _, _ => trivial
  | r :: rs, ah, h, p => by
    obtain ⟨h1, h2⟩ := h r List.mem_cons_self
    have pp := List.pairwise_append.mp p
    refine ⟨h1, ?_, rgsOk_of (fun q hq => h q (List.mem_cons_of_mem _ hq)) (by simpa using p)⟩
    unfold rgOk
    simp only [Bool.and_eq_true]
    refine ⟨⟨?_, h2⟩, ?_⟩
    · unfold isBehind
      cases hg : ah.getLast? with
      | none => rfl
      | some q => exact (pp.2.2 q (List.mem_of_getLast? hg) r List.mem_cons_self).1
    · unfold allNested
      rw [List.all_eq_true]
      exact fun q hq => (pp.2.2 q hq r List.mem_cons_self).2
end Pv
end
section
set_option linter.all false
set_option maxRecDepth 100000
namespace K05
open PySem PySem.W Pv
def innerOf (many : Nat) (lots : List (List Int)) : List Nat := (List.range many).filter fun i => lots.any fun l => decide ((i : Int) ∈ l)
theorem land_step {n k : Nat} {inner : List Nat} {great odds : Int} {pls : List Pl} {x1 x2 x3 x8 x9 x10 x11 x12 : Sl} {B : Bx} (hB : JarOk B) (hg : great = 0 ∨ great = 1000000) (ho : 1 ≤ odds ∧ odds ≤ 99) (hl : pls.length ≤ 1000) :
    W (turn (callF G (n + 3)) (.n 8) L__law_uw_land_0 (.int (k : Int)) [.vl (bref 0), x1, x2, x3, .vl (.list (inner.map fun (i : Nat) => .int (i : Int))), .ow (pls.map dPl), .vl (.int odds), .vl (.int great), x8, x9, x10, x11, x12] B)
      (fun f B' => JarOk B' ∧ ∃ p : Pl, ∃ x8 x10 x11, f = .nx [.vl (bref 0), x1, x2, x3, .vl (.list (inner.map fun (i : Nat) => .int (i : Int))), .ow ((pls ++ [p]).map dPl), .vl (.int odds), .vl (.int great), x8, x9, x10, x11, x12] ∧ PlOk p ∧ (k ∈ inner → p.2 = -1)) NoX := by
  simp [turn, L__law_uw_land_0]
  refine (floor_W hB).use ?_
  rintro r B1 ⟨jB1, v1, rfl, h1, h1'⟩
  simp
  refine (floor_W jB1).use ?_
  rintro r B2 ⟨jB2, v2, rfl, h2, h2'⟩
  simp
  refine (one_W jB2 (by simp) (by simp)).use ?_
  rintro r B3 ⟨jB3, d, hd, rfl⟩
  have hf : ∃ f : Int, d = .int f ∧ 0 ≤ f ∧ f ≤ 1000000 := by
    simp at hd
    rcases hd with rfl | rfl | rfl
    · exact ⟨_, rfl, by omega, by omega⟩
    · exact ⟨_, rfl, by omega, by omega⟩
    · exact ⟨_, rfl, by omega, by omega⟩
  obtain ⟨f, rfl, f1, f2⟩ := hf
  simp
  refine (one_W jB3 (by simp) (by simp)).use ?_
  rintro r B4 ⟨jB4, d, hd, rfl⟩
  have hr : ∃ r : Int, d = .int r ∧ f ≤ r ∧ r ≤ 10000000 := by
    simp at hd
    rcases hd with rfl | rfl | rfl | rfl
    · exact ⟨_, rfl, by omega, by omega⟩
    · exact ⟨_, rfl, by omega, by omega⟩
    · exact ⟨_, rfl, by omega, by omega⟩
    · exact ⟨_, rfl, by omega, by omega⟩
  obtain ⟨r, rfl, r1, r2⟩ := hr
  have e0 : (inner.map fun (i : Nat) => PyData.int (i : Int)) = (inner.map fun (i : Nat) => (i : Int)).map .int := by rw [List.map_map]; rfl
  have e1 : inD (.int (k : Int)) (.list (inner.map fun (i : Nat) => PyData.int (i : Int))) = some (decide (k ∈ inner)) := by
    rw [e0, inD_intsL]
    congr 1
    simp only [List.mem_map, decide_eq_decide]
    exact ⟨fun ⟨a, h1, h2⟩ => by have : a = k := by omega
                                 rw [← this]; exact h1, fun h => ⟨k, h, rfl⟩⟩
  simp [e1, hl, show pls.length < 16777216 by omega]
  by_cases hk : k ∈ inner
  · simp [hk]
    exact ⟨jB4, f, rfl, ⟨f1, f2, .inl rfl⟩⟩
  · simp [hk]
    refine (take_W jB4 ho.1 (by omega)).use ?_
    rintro r B5 ⟨jB5, v, rfl, _, _⟩
    by_cases hv : v = 0
    · simp [hv]
      exact ⟨jB5, f, _, rfl, ⟨f1, f2, .inr ⟨r1, r2⟩⟩⟩
    · simp [hv]
      exact ⟨jB5, f, -1, rfl, ⟨f1, f2, .inl rfl⟩⟩
theorem land_W {n : Nat} {B : Bx} {X : Nat → D → Bx → Prop} (hB : JarOk B) : W (callF G (n + 4) i__law_uw_land [bref 0, .int 40] B) (fun r B' => JarOk B' ∧ ∃ L : Land, r = (dLand L, false) ∧ LandOk L ∧ L.rs.length ≤ 40) X := by
  rw [call_eq (fd := F__law_uw_land) rfl rfl]
  simp [F__law_uw_land, slots0]
  refine (many_W hB).use ?_
  rintro r B1 ⟨jB1, many, rfl, hm⟩
  simp [rngX_nat (show many ≤ 16777216 by omega)]
  refine (nest_W jB1 hm).use ?_
  rintro r B2 ⟨jB2, lots, rfl, hlots, hlt, hll⟩
  simp
  refine W_lcf (u := fun (i : Nat) => .int (i : Int)) (fun i => lots.any fun l => decide ((i : Int) ∈ l)) (fun i hi => ?_) ?_
  · refine W.eq ?_
    simp [m_lcF]
    refine W_lcf (u := dT) (fun l => decide ((i : Int) ∈ l)) (fun l _ => W.eq (by
      simp [m_lcF, dT]
      by_cases h : (i : Int) ∈ l <;> simp [h])) ?_
    have em : ((lots.filter fun l => decide ((i : Int) ∈ l)).map dT).isEmpty = !decide (∃ l, l ∈ lots ∧ (i : Int) ∈ l) := by
      rw [List.isEmpty_map, Bool.eq_iff_iff, List.isEmpty_iff, List.filter_eq_nil_iff]
      simp
    simp [eqD_nilL (plainAll_map' (e := dT) (xs := lots.filter fun l => decide ((i : Int) ∈ l)) fun _ _ => plain_dT), em, -List.isEmpty_map]
    by_cases hx : ∃ l, l ∈ lots ∧ (i : Int) ∈ l <;> simp [hx]
  · have hin : ∀ i, i ∈ ((List.range many).filter fun (i : Nat) => lots.any fun l => decide ((i : Int) ∈ l)) ↔ i < many ∧ ∃ l ∈ lots, (i : Int) ∈ l := by
      intro i; simp
    generalize ((List.range many).filter fun (i : Nat) => lots.any fun l => decide ((i : Int) ∈ l)) = inner at hin
    simp [jB2.nl]
    refine (one_W jB2 (by simp) (by simp)).use ?_
    rintro r B3 ⟨jB3, d, hd, rfl⟩
    have ho : ∃ odds : Int, d = .int odds ∧ 1 ≤ odds ∧ odds ≤ 99 := by
      simp at hd
      rcases hd with rfl | rfl | rfl <;> exact ⟨_, rfl, by omega, by omega⟩
    obtain ⟨odds, rfl, ho⟩ := ho
    simp
    refine (one_W jB3 (by simp) (by simp)).use ?_
    rintro r B4 ⟨jB4, d, hd, rfl⟩
    have hg : ∃ great : Int, d = .int great ∧ (great = 0 ∨ great = 1000000) := by
      simp at hd
      rcases hd with rfl | rfl
      · exact ⟨_, rfl, .inl rfl⟩
      · exact ⟨_, rfl, .inr rfl⟩
    obtain ⟨great, rfl, hg⟩ := hg
    simp [rngX_nat (show many ≤ 16777216 by omega), jB3.nl]
    refine W_forR (fun k ρ B => JarOk B ∧ ∃ pls : List Pl, ∃ x8 x9 x10 x11 x12, ρ = [.vl (bref 0), .vl (.int 40), .vl (.int many), .vl (.list (lots.map dT)), .vl (.list (inner.map fun (i : Nat) => .int (i : Int))), .ow (pls.map dPl), .vl (.int odds), .vl (.int great), x8, x9, x10, x11, x12] ∧ pls.length = k ∧ (∀ p ∈ pls, PlOk p) ∧ ∀ i, (h : i < pls.length) → i ∈ inner → (pls[i]).2 = -1)
      ⟨jB4, [], _, _, _, _, _, rfl, rfl, by simp, by simp⟩ ?_ ?_
    · rintro k hk ρ B ⟨jB, pls, x8, x9, x10, x11, x12, rfl, h1, h2, h3⟩
      refine (land_step jB hg ho (by omega)).use ?_
      rintro f B' ⟨jB', p, x8, x10, x11, rfl, hp, hpi⟩
      refine ⟨jB', pls ++ [p], _, _, _, _, _, rfl, by simp [h1], ?_, ?_⟩
      · intro q hq
        rcases List.mem_append.mp hq with hq | hq
        · exact h2 q hq
        · rw [List.mem_singleton.mp hq]; exact hp
      · intro i hi hii
        rw [List.getElem_append]
        split
        · rename_i h; exact h3 i h hii
        · rename_i h
          simp at hi
          have : i = k := by omega
          subst this
          simpa using hpi hii
    · rintro ρ B ⟨jB, pls, x8, x9, x10, x11, x12, rfl, h1, h2, h3⟩
      simp
      refine W_lcd (e := dT) (fun ys B => JarOk B ∧ ∃ rs : List Rg, ys = rs.map dRg ∧ rs.map (·.1) = lots.take ys.length ∧ ∀ r ∈ rs, 0 ≤ r.2 ∧ r.2 ≤ 10000000) ⟨jB, [], rfl, rfl, by simp⟩ ?_ ?_
      · rintro k hk ys B hyl ⟨jB, rs, rfl, e, hr⟩
        have hform := hlots.form lots[k] (List.getElem_mem hk)
        refine W.use (Q' := fun o B' => JarOk B' ∧ ∃ f : Int, o = some (dRg (lots[k], f)) ∧ 0 ≤ f ∧ f ≤ 10000000) ?_ ?_
        · simp [m_lcF, dT]
          refine (one_W jB (by simp) (by simp)).use ?_
          rintro r B' ⟨jB', d, hd, rfl⟩
          have hf : ∃ f : Int, d = .int f ∧ 0 ≤ f ∧ f ≤ 10000000 := by
            simp at hd
            rcases hd with rfl | rfl | rfl | rfl | rfl | rfl <;> exact ⟨_, rfl, by omega, by omega⟩
          obtain ⟨f, rfl, hf⟩ := hf
          simp
          exact ⟨jB', f, rfl, hf⟩
        rintro o B' ⟨jB', f, rfl, hf⟩
        refine ⟨_, rfl, jB', rs ++ [(lots[k], f)], by simp [dRg], ?_, ?_⟩
        · rw [List.length_map] at e hyl
          simp [e, hyl]
        · intro r hr'
          rcases List.mem_append.mp hr' with hr' | hr'
          · exact hr r hr'
          · rw [List.mem_singleton.mp hr']; exact hf
      · rintro ys B hyl ⟨jB, rs, rfl, e, hr⟩
        rw [hyl, List.take_length] at e
        refine ⟨jB, ⟨pls, rs⟩, rfl, ⟨by simp; omega, h2, ?_⟩, by simp at hyl; simp; omega⟩
        refine rgsOk_of (fun r hr' => ?_) ?_
        · have hrl : r.1 ∈ lots := by rw [← e]; exact List.mem_map.mpr ⟨r, hr', rfl⟩
          obtain ⟨f1, f2, f3, f4⟩ := hlots.form r.1 hrl
          refine ⟨⟨by omega, by simp; omega, (hr r hr').1, (hr r hr').2, inc_rise f1 fun x hx => by have := f4 x hx; simp; omega⟩, ?_⟩
          unfold noRooms
          rw [List.all_eq_true]
          intro p hp
          obtain ⟨p1, p2⟩ := f4 p hp
          have hpi : p.toNat ∈ inner := (hin p.toNat).mpr ⟨by omega, r.1, hrl, by rw [show ((p.toNat : Nat) : Int) = p by omega]; exact hp⟩
          have := h3 p.toNat (by omega) hpi
          rw [decide_eq_true_eq, ← this, ← roomAt_nat (by omega)]
          congr 1
          omega
        · rw [List.nil_append]
          have hpw : (rs.map (·.1)).Pairwise (fun a b => Pv.lexLt a b = true ∧ nestedB b a = true) := by
            rw [e]
            refine (hlt.and hlots.nest).imp_of_mem fun {a b} ha hb ⟨q1, q2, _⟩ => ⟨q1, nestedB_of (hlots.form b hb).1 (hlots.form a ha).1 q2.symm⟩
          exact List.pairwise_map.mp hpw
end K05
end
section
set_option linter.all false
set_option maxRecDepth 100000
namespace Pv
open PySem PySem.W
/-- .. over things -/
theorem W_forD {f : D → List Sl → Bx → Out Fl} {Q : Fl → Bx → Prop} {X : Nat → D → Bx → Prop} (I : Nat → List Sl → Bx → Prop) {xs : List D} {ρ : List Sl} {B : Bx} (h0 : I 0 ρ B)
    (st : ∀ k, k < xs.length → ∀ x ∈ xs, ∀ ρ B, I k ρ B → W (f x ρ B) (fun fl B => match fl with | .nx ρ => I (k + 1) ρ B | .ct ρ => I (k + 1) ρ B | .bk ρ => Q (.nx ρ) B | .rt d b => Q (.rt d b) B) X)
    (q : ∀ ρ B, I xs.length ρ B → Q (.nx ρ) B) : W (forL f xs ρ B) Q X := by
  have := W_for (e := id) (f := f) (Q := Q) (X := X) I (xs := xs) 0 h0 (fun i hi ρ B h => by rw [Nat.zero_add] at *; exact st i hi _ (List.getElem_mem hi) ρ B h) (fun ρ B h => q ρ B (by rw [Nat.zero_add] at h; exact h))
  rw [List.map_id] at this
  exact this
theorem W_lcfD {f : D → Bx → Out (Option D)} {B : Bx} {Q : List D → Bx → Prop} {X : Nat → D → Bx → Prop} {xs : List D} (p : D → Bool) (h : ∀ x ∈ xs, f x B = .ok (if p x = true then some x else none) B) (q : Q (xs.filter p) B) : W (lcL f xs B) Q X := by
  have := W_lcf (e := id) (u := id) (Q := Q) (X := X) p h (by rw [List.map_id]; exact q)
  rw [List.map_id] at this
  exact this
def Fine (d : D) : Prop := d.plain = true ∧ nodes d ≤ 20000
def AllFine (xs : List D) : Prop := ∀ x ∈ xs, Fine x
theorem AllFine.nil : AllFine [] := fun x h => by cases h
theorem AllFine.cons {x : D} {xs : List D} (h1 : Fine x) (h2 : AllFine xs) : AllFine (x :: xs) := fun y h => by
  rcases List.mem_cons.mp h with rfl | h
  · exact h1
  · exact h2 y h
theorem fine_c {d : D} (h : (d.plain && decide (nodes d ≤ 20000)) = true) : Fine d := by
  simp only [Bool.and_eq_true, decide_eq_true_eq] at h
  exact h
theorem AllFine.append {xs ys : List D} (h1 : AllFine xs) (h2 : AllFine ys) : AllFine (xs ++ ys) := fun y h => by
  rcases List.mem_append.mp h with h | h
  · exact h1 y h
  · exact h2 y h
theorem plainAll_append {xs ys : List D} : PyData.plainAll (xs ++ ys) = (PyData.plainAll xs && PyData.plainAll ys) := by
  induction xs with
  | nil => simp [PyData.plainAll]
  | cons x xs ih => rw [List.cons_append, PyData.plainAll, PyData.plainAll, ih, Bool.and_assoc]
theorem nodesL_sub {xs ys : List D} (h : xs.Sublist ys) : nodesL xs ≤ nodesL ys := by
  induction h with
  | slnil => exact Nat.le_refl _
  | cons a _ ih => rw [nodesL]; omega
  | cons_cons a _ ih => rw [nodesL, nodesL]; omega
theorem cut_sub {α : Type} (xs : List α) (a b : Option Int) : (cut xs a b).Sublist xs := (List.take_sublist _ _).trans (List.drop_sublist _ _)
theorem cut_plain {xs : List D} {a b : Option Int} (h : PyData.plainAll xs = true) : PyData.plainAll (cut xs a b) = true := by
  rw [plainAll_iff] at *
  exact fun x hx => h x ((cut_sub xs a b).subset hx)
theorem cut_nodes (xs : List D) (a b : Option Int) : nodesL (cut xs a b) ≤ nodesL xs := nodesL_sub (cut_sub xs a b)
theorem m_cut_len {α : Type} (xs : List α) (a b : Option Int) : (cut xs a b).length ≤ xs.length := (cut_sub xs a b).length_le
theorem plainAll_rep {n : Nat} {d : D} (h : d.plain = true) : PyData.plainAll (List.replicate n d) = true := by
  rw [plainAll_iff]; intro x hx; rw [(List.mem_replicate.mp hx).2]; exact h
theorem nodesL_rep {n : Nat} {d : D} : nodesL (List.replicate n d) = n * nodes d := by
  induction n with
  | zero => simp [nodesL]
  | succ n ih => rw [List.replicate_succ, nodesL, ih, Nat.add_mul]; omega
theorem plainAll_nats (xs : List Nat) : PyData.plainAll (xs.map fun (i : Nat) => .int (i : Int)) = true := plainAll_map' fun _ _ => rfl
theorem nodesL_nats (xs : List Nat) : nodesL (xs.map fun (i : Nat) => .int (i : Int)) = xs.length := by
  induction xs with
  | nil => rfl
  | cons x xs ih => rw [List.map_cons, nodesL, ih, nodes, List.length_cons]; omega
theorem nodesL_ints (xs : List Int) : nodesL (xs.map .int) = xs.length := by
  induction xs with
  | nil => rfl
  | cons x xs ih => rw [List.map_cons, nodesL, ih, nodes, List.length_cons]; omega
theorem nodes_dPl (p : Pl) : nodes (dPl p) = 3 := by simp [dPl, nodes, nodesL]
theorem nodes_dRg (r : Rg) : nodes (dRg r) = r.1.length + 3 := by simp [dRg, nodes, nodesL, nodesL_ints]
theorem nodesL_pls (ps : List Pl) : nodesL (ps.map dPl) = ps.length * 3 := by
  induction ps with
  | nil => rfl
  | cons x xs ih => rw [List.map_cons, nodesL, ih, nodes_dPl, List.length_cons]; omega
theorem nodesL_rgs {rs : List Rg} (h : ∀ r ∈ rs, r.1.length ≤ 40) : nodesL (rs.map dRg) ≤ rs.length * 43 := by
  have := nodesL_le (k := 43) (xs := rs.map dRg) fun x hx => by
    obtain ⟨r, hr, rfl⟩ := List.mem_map.mp hx
    rw [nodes_dRg]; have := h r hr; omega
  rw [List.length_map] at this
  exact this
theorem RgsOk.mem {ps : List Pl} : ∀ {rs ah : List Rg}, RgsOk ps ah rs → ∀ r ∈ rs, RgForm ps.length r ∧ noRooms ps r.1 = true
  | [], _, _, r, h => by cases h
  | q :: rs, ah, ⟨h1, h2, h3⟩, r, h => by
    rcases List.mem_cons.mp h with rfl | h
    · refine ⟨h1, ?_⟩
      unfold rgOk at h2
      simp only [Bool.and_eq_true] at h2
      exact h2.1.2
    · exact h3.mem r h
theorem LandOk.sizes {L : Land} (h : LandOk L) (hr : L.rs.length ≤ 40) : PyData.plainAll (L.ps.map dPl) = true ∧ PyData.plainAll (L.rs.map dRg) = true ∧ nodesL (L.ps.map dPl) ≤ 120 ∧ nodesL (L.rs.map dRg) ≤ 1720 := by
  have hm := h.many
  refine ⟨plainAll_map' fun _ _ => plain_dPl, plainAll_map' fun _ _ => plain_dRg, ?_, ?_⟩
  · rw [nodesL_pls]; omega
  · have := nodesL_rgs (rs := L.rs) fun r hr' => by have := (h.rgs.mem r hr').1.2.1; omega
    omega
theorem odd_first {xs ys : List D} (hx : PyData.plainAll xs = true) (hy : PyData.plainAll ys = true) (nx : nodesL xs ≤ 120) (ny : nodesL ys ≤ 1720) : AllFine [PyData.none, PyData.list [], PyData.tuple [PyData.tuple xs],
      PyData.tuple [PyData.tuple xs, PyData.tuple ys, PyData.tuple []], PyData.list [PyData.tuple xs, PyData.tuple ys],
      PyData.tuple [PyData.list xs, PyData.tuple ys], PyData.tuple [PyData.tuple xs, PyData.none], PyData.int 0,
      PyData.tuple [PyData.tuple xs, PyData.list ys],
      PyData.tuple [PyData.tuple (List.replicate 41 (.tuple [.int 0, .int (-1)])), PyData.tuple []],
      PyData.tuple [PyData.tuple (List.replicate 41 .none), PyData.none],
      PyData.str (Str.ofString "land"), PyData.tuple [PyData.none, PyData.none]] := by
  refine .cons (fine_c rfl) <| .cons (fine_c rfl) <| .cons ⟨?_, ?_⟩ <| .cons ⟨?_, ?_⟩ <| .cons ⟨?_, ?_⟩ <| .cons ⟨?_, ?_⟩ <| .cons ⟨?_, ?_⟩ <| .cons (fine_c rfl) <| .cons ⟨?_, ?_⟩ <| .cons (fine_c rfl) <| .cons (fine_c rfl) <| .cons (fine_c rfl) <| .cons (fine_c rfl) .nil
  all_goals first
    | simp only [PyData.plain, PyData.plainAll, hx, hy, Bool.and_self, Bool.and_true, Bool.true_and]
    | (simp only [nodes, nodesL]; omega)
def Fin2 (d : D) : Prop := d.plain = true ∧ nodes d ≤ 100
theorem Fin2.cons {x : D} {xs : List D} (h1 : Fin2 x) (h2 : ∀ y ∈ xs, Fin2 y) : ∀ y ∈ x :: xs, Fin2 y := fun y h => by
  rcases List.mem_cons.mp h with rfl | h
  · exact h1
  · exact h2 y h
theorem odd_second {zs ws c1 c2 : List D} {i : Int} (hz : PyData.plainAll zs = true) (nz : nodesL zs ≤ 40) (h1 : PyData.plainAll c1 = true) (n1 : nodesL c1 ≤ 40) (h2 : PyData.plainAll c2 = true) (n2 : nodesL c2 ≤ 40) (hw : ∀ w ∈ ws, Fin2 w) : ∀ d ∈
    (PyData.none :: PyData.tuple [PyData.tuple zs, PyData.int 0] :: PyData.tuple [PyData.tuple [PyData.int 0], PyData.int 0] :: PyData.tuple [PyData.tuple [], PyData.int 0] ::
      PyData.tuple [PyData.tuple [PyData.int 0, PyData.int i], PyData.int 0] :: PyData.tuple [PyData.tuple [PyData.int 1, PyData.int 0], PyData.int 0] :: PyData.tuple [PyData.list [PyData.int 0, PyData.int 1], PyData.int 0] ::
      PyData.tuple [PyData.tuple c1, PyData.int (-1)] :: PyData.tuple [PyData.tuple [PyData.int 0, PyData.int 0], PyData.int 0] :: PyData.tuple [PyData.tuple c1, PyData.int 10000001] ::
      PyData.tuple [PyData.tuple c1, PyData.bool true] :: PyData.tuple [PyData.tuple c1] :: PyData.list [PyData.tuple c1, PyData.int 0] :: PyData.tuple [PyData.tuple c1, PyData.none] :: PyData.tuple [PyData.tuple c2, PyData.int 0] :: ws), Fin2 d := by
  refine .cons ⟨rfl, by decide⟩ <| .cons ⟨?_, ?_⟩ <| .cons ⟨?_, ?_⟩ <| .cons ⟨?_, ?_⟩ <| .cons ⟨?_, ?_⟩ <| .cons ⟨?_, ?_⟩ <| .cons ⟨?_, ?_⟩ <| .cons ⟨?_, ?_⟩ <| .cons ⟨?_, ?_⟩ <| .cons ⟨?_, ?_⟩ <| .cons ⟨?_, ?_⟩ <| .cons ⟨?_, ?_⟩ <| .cons ⟨?_, ?_⟩ <| .cons ⟨?_, ?_⟩ <| .cons ⟨?_, ?_⟩ hw
  all_goals first
    | simp only [PyData.plain, PyData.plainAll, hz, h1, h2, Bool.and_self, Bool.and_true, Bool.true_and]
    | (simp only [nodes, nodesL]; omega)
theorem LandOk.eachRg {L : Land} (h : LandOk L) : ∀ y ∈ L.rs.map dRg, Fin2 y := by
  intro y hy
  obtain ⟨r, hr, rfl⟩ := List.mem_map.mp hy
  have := (h.rgs.mem r hr).1.2.1
  have := h.many
  exact ⟨plain_dRg, by rw [nodes_dRg]; omega⟩
end Pv
end
section
set_option linter.all false
set_option maxRecDepth 100000
namespace K05
open PySem PySem.W Pv
theorem odd_place_step {n : Nat} {xs ys : List D} {d : D} {found : List D} {x1 x6 x7 x8 x9 x10 x11 : Sl} {B : Bx} (hB : JarOk B) (hx : PyData.plainAll xs = true) (hy : PyData.plainAll ys = true) (nx : nodesL xs ≤ 120) (ny : nodesL ys ≤ 1720) (hd : d.plain = true) (hn : nodes d ≤ 10)
    (hf : found.length ≤ 1000) :
    W (turn (callF G (n + 1)) (.n 7) L__law_uw_odd_land_1 d [.vl (bref 0), x1, .vl (.tuple xs), .vl (.tuple ys), .vl (.int xs.length), .ow found, x6, x7, x8, x9, x10, x11] B)
      (fun f B' => JarOk B' ∧ ∃ e : D, ∃ x7 x11, f = .nx [.vl (bref 0), x1, .vl (.tuple xs), .vl (.tuple ys), .vl (.int xs.length), .ow (found ++ [e]), x6, x7, x8, x9, x10, x11] ∧ Fine e) NoX := by
  have hl := nodesL_len xs
  simp [turn, L__law_uw_odd_land_1]
  refine (take_W hB (by omega) (by omega)).use ?_
  rintro r B1 ⟨jB1, v, rfl, v1, v2⟩
  have c1 := m_cut_len xs none (some v)
  simp [show (cut xs none (some v)).length ≤ 16777215 by omega]
  refine (take_W jB1 (by omega) (by omega)).use ?_
  rintro r B2 ⟨jB2, w, rfl, w1, w2⟩
  have c2 := cut_nodes xs none (some v)
  simp [show -1000 ≤ w ∧ w ≤ 1000 by omega, show found.length < 16777216 by omega]
  rw [if_pos (by omega)]
  simp [show found.length < 16777216 by omega]
  refine ⟨jB2, ?_⟩
  constructor
  · simp [PyData.plain, PyData.plainAll, plainAll_append, cut_plain hx, hy, hd, plainAll_rep (d := .none) rfl]
  · simp [nodes, nodesL, nodesL_append, nodesL_rep]
    omega
theorem odd_region_step {n : Nat} {xs ys : List D} {d : D} {found : List D} {x1 x6 x7 x8 x9 x10 x11 : Sl} {B : Bx} (hB : JarOk B) (hx : PyData.plainAll xs = true) (hy : PyData.plainAll ys = true) (nx : nodesL xs ≤ 120) (ny : nodesL ys ≤ 1720) (hd : d.plain = true) (hn : nodes d ≤ 100)
    (hf : found.length ≤ 1000) :
    W (turn (callF G (n + 1)) (.n 7) L__law_uw_odd_land_0 d [.vl (bref 0), x1, .vl (.tuple xs), .vl (.tuple ys), .vl (.int xs.length), .ow found, x6, x7, x8, x9, x10, x11] B)
      (fun f B' => JarOk B' ∧ ∃ e : D, ∃ x7 x11, f = .nx [.vl (bref 0), x1, .vl (.tuple xs), .vl (.tuple ys), .vl (.int xs.length), .ow (found ++ [e]), x6, x7, x8, x9, x10, x11] ∧ Fine e) NoX := by
  have hl := nodesL_len ys
  simp [turn, L__law_uw_odd_land_0]
  refine (take_W hB (by omega) (by omega)).use ?_
  rintro r B1 ⟨jB1, v, rfl, v1, v2⟩
  have c1 := m_cut_len ys none (some v)
  have c3 := m_cut_len ys (some v) none
  simp [show (cut ys none (some v)).length ≤ 16777215 by omega]
  have c2 := cut_nodes ys none (some v)
  have c4 := cut_nodes ys (some v) none
  rw [if_pos (by omega)]
  simp [show found.length < 16777216 by omega]
  refine ⟨jB1, ?_⟩
  constructor
  · simp [PyData.plain, PyData.plainAll, plainAll_append, cut_plain hx, cut_plain hy, hx, hy, hd]
  · simp [nodes, nodesL, nodesL_append]
    omega
theorem odd_land_W {n : Nat} {L : Land} {B : Bx} {X : Nat → D → Bx → Prop} (hB : JarOk B) (hL : LandOk L) (hr : L.rs.length ≤ 40) : W (callF G (n + 6) i__law_uw_odd_land [bref 0, dLand L] B)
    (fun r B' => JarOk B' ∧ ∃ d : D, r = (.tuple [d, landFault d], false) ∧ Fine d ∧ landFault d ≠ .none) X := by
  rw [call_eq (fd := F__law_uw_odd_land) rfl rfl]
  obtain ⟨hx, hy, nx, ny⟩ := hL.sizes hr
  have hm := hL.many
  have lx : (L.ps.map dPl).length ≤ 40 := by rw [List.length_map]; exact hm
  have hyr := hL.eachRg
  have ly : (L.rs.map dRg).length ≤ 40 := by rw [List.length_map]; exact hr
  rw [dLand_eq]
  generalize L.ps.map dPl = xs at *
  generalize L.rs.map dRg = ys at *
  simp [F__law_uw_odd_land, slots0, hB.nl, -List.reduceReplicate]
  refine W_forD (fun k ρ B => JarOk B ∧ ∃ found : List D, ∃ x1 x6 x7 x8 x9 x10 x11, ρ = [.vl (bref 0), x1, .vl (.tuple xs), .vl (.tuple ys), .vl (.int xs.length), .ow found, x6, x7, x8, x9, x10, x11] ∧ found.length ≤ 13 + k ∧ AllFine found ∧ .none ∈ found) ?_ ?_ ?_
  · exact ⟨hB, _, _, _, _, _, _, _, _, rfl, by simp, odd_first hx hy nx ny, by simp⟩
  · rintro k hk d hd ρ B ⟨jB, found, x1, x6, x7, x8, x9, x10, x11, rfl, h1, h2, h3⟩
    have hd' : d.plain = true ∧ nodes d ≤ 10 := by
      have : ∀ (l : List D), (l.all fun x => x.plain && decide (nodes x ≤ 10)) = true → d ∈ l → d.plain = true ∧ nodes d ≤ 10 := fun l hl h => by
        have := List.all_eq_true.mp hl d h
        simpa using this
      exact this _ (by rfl) hd
    simp at hk
    refine (odd_place_step jB hx hy nx ny hd'.1 hd'.2 (by omega)).use ?_
    rintro f B' ⟨jB', e, x7, x11, rfl, he⟩
    exact ⟨jB', found ++ [e], _, _, _, _, _, _, _, rfl, by simp; omega, h2.append (.cons he .nil), by simp [h3]⟩
  · rintro ρ B ⟨jB, found, x1, x6, x7, x8, x9, x10, x11, rfl, h1, h2, h3⟩
    have hz1 : PyData.plainAll ((List.range xs.length).map fun (i : Nat) => PyData.int (i : Int)) = true := plainAll_nats _
    have hz2 := nodesL_nats (List.range xs.length)
    rw [List.length_range] at hz2
    simp [rngX_nat (show xs.length ≤ 16777216 by omega), jB.nl]
    generalize ((List.range xs.length).map fun (i : Nat) => PyData.int (i : Int)) = zs at *
    have cl := m_cut_len ys none (some 1)
    rw [if_pos (by omega)]
    simp
    have c1 := cut_nodes zs none (some 2)
    have c2 := cut_nodes zs (some 1) (some 3)
    refine W_forD (fun k ρ B => JarOk B ∧ ∃ found : List D, ∃ x1 x6 x7 x8 x9 x10 x11, ρ = [.vl (bref 0), x1, .vl (.tuple xs), .vl (.tuple ys), .vl (.int xs.length), .ow found, x6, x7, x8, x9, x10, x11] ∧ found.length ≤ 26 + k ∧ AllFine found ∧ .none ∈ found) ?_ ?_ ?_
    · simp at h1
      exact ⟨jB, _, _, _, _, _, _, _, _, rfl, by omega, h2, h3⟩
    · rintro k hk d hd ρ B ⟨jB, found, x1, x6, x7, x8, x9, x10, x11, rfl, h1, h2, h3⟩
      have hd' := odd_second hz1 (by omega) (cut_plain hz1) (by omega) (cut_plain hz1) (by omega) (fun w hw => hyr w ((cut_sub ys none (some 1)).subset hw)) d hd
      simp at hk
      refine (odd_region_step jB hx hy nx ny hd'.1 hd'.2 (by omega)).use ?_
      rintro f B' ⟨jB', e, x7, x11, rfl, he⟩
      exact ⟨jB', found ++ [e], _, _, _, _, _, _, _, rfl, by simp; omega, h2.append (.cons he .nil), by simp [h3]⟩
    · rintro ρ B ⟨jB, found, x1, x6, x7, x8, x9, x10, x11, rfl, h1, h2, h3⟩
      simp
      refine W_lcfD (fun d => !isNone (landFault d)) (fun d hd => W.eq ?_) ?_
      · have hf := h2 d hd
        simp [m_lcF, uw_fault_ok hf.1 (show nodes d < 16777216 by have := hf.2; omega)]
        cases isNone (landFault d) <;> simp
      · simp [jB.nl]
        have hmem : .none ∈ found.filter fun d => !isNone (landFault d) := List.mem_filter.mpr ⟨h3, by simp [landFault]⟩
        have hle := List.length_filter_le (fun d => !isNone (landFault d)) found
        have hlc : (15 + (cut ys none (some 1)).length) ≤ 100 := by omega
        have hfl : found.length ≤ 1000 := by
          simp at h1
          omega
        refine (one_W jB (by intro e; rw [e] at hmem; cases hmem) (by omega)).use ?_
        rintro r B' ⟨jB', d, hd, rfl⟩
        obtain ⟨hd1, hd2⟩ := List.mem_filter.mp hd
        have hf := h2 d hd1
        simp [uw_fault_ok hf.1 (show nodes d < 16777216 by have := hf.2; omega)]
        refine ⟨jB', d, ⟨rfl, rfl⟩, hf, fun e => ?_⟩
        rw [e] at hd2
        simp at hd2
end K05
end
section
set_option linter.all false
set_option maxRecDepth 100000
namespace Pv
open PySem PySem.W
theorem rngX_2 {a b : Nat} (hb : b ≤ 16777216) (ha : a ≤ b) : rngX [.int (a : Int), .int (b : Int)] = some ((List.range (b - a)).map fun (i : Nat) => .int ((a + i : Nat) : Int)) := by
  unfold rngX
  show rng2 (a : Int) (b : Int) = _
  unfold rng2
  rw [if_pos (by omega)]
  unfold rngL
  rw [show ((b : Int) - (a : Int)).toNat = b - a by omega]
  congr 1
theorem limitsD_mem {L : Land} {d : D} (h : d ∈ limitsD L) : ∃ (s : String) (i : Int), d = .tuple [.str s, .int i] ∧ isLimB L d = true := by
  unfold limitsD at h
  simp only [List.mem_append, List.mem_map, List.mem_range, List.mem_filter] at h
  rcases h with ⟨i, hi, rfl⟩ | ⟨i, hi, rfl⟩ | ⟨i, ⟨hi, hr⟩, rfl⟩
  · refine ⟨_, _, rfl, ?_⟩
    simp [lim, isLimB]; omega
  · refine ⟨_, _, rfl, ?_⟩
    simp [lim, isLimB]; omega
  · refine ⟨_, _, rfl, ?_⟩
    simp at hr
    simp [lim, isLimB, hr]; omega
theorem limitsD_len {L : Land} : (limitsD L).length ≤ L.ps.length + L.rs.length + L.ps.length := by
  unfold limitsD
  have := List.length_filter_le (fun (i : Nat) => !decide (roomAt L.ps (i : Int) = -1)) (List.range L.ps.length)
  simp only [List.length_append, List.length_map, List.length_range] at *
  omega
theorem limitsD_plain {L : Land} : PyData.plainAll (limitsD L) = true := by
  rw [plainAll_iff]
  intro x hx
  obtain ⟨s, i, rfl, _⟩ := limitsD_mem hx
  rfl
theorem limitsD_nodes {L : Land} : nodesL (limitsD L) ≤ (limitsD L).length * 3 := nodesL_le fun x hx => by
  obtain ⟨s, i, rfl, _⟩ := limitsD_mem hx
  simp [nodes, nodesL]
theorem lotD_fine {L : Land} (h : LandOk L) {d : D} (hd : d ∈ limitsD L) : (lotD L d).plain = true ∧ nodes (lotD L d) ≤ 41 := by
  obtain ⟨s, i, rfl, hl⟩ := limitsD_mem hd
  unfold lotD
  simp only
  split
  · exact ⟨rfl, by simp [nodes, nodesL]⟩
  · split
    · simp only [isLimB] at hl
      rename_i h1 h2
      simp [h2] at hl
      have hlt : i.toNat < L.rs.length := by omega
      have := (h.rgs.mem (L.rs[i.toNat]) (List.getElem_mem hlt)).1.2.1
      have := h.many
      refine ⟨plain_dT, ?_⟩
      simp [List.getD, hlt, dT, nodes, nodesL_ints]
      omega
    · have hm := h.many
      have := List.length_filter_le (fun (j : Nat) => !decide ((j : Int) = i)) (List.range L.ps.length)
      rw [List.length_range] at this
      refine ⟨?_, ?_⟩
      · simp only [PyData.plain]; exact plainAll_nats _
      · rw [nodes, nodesL_nats]; omega
theorem Fine.node {d : D} (h : Fine d) : nodes d < 16777216 := by have := h.2; omega
theorem dLand_fine {L : Land} (h : LandOk L) (hr : L.rs.length ≤ 40) : Fine (dLand L) := by
  obtain ⟨h1, h2, h3, h4⟩ := h.sizes hr
  exact ⟨plain_dLand, by simp [dLand, nodes, nodesL]; omega⟩
@[simp] theorem hrd_ok {hs : List (Str × Nat)} {r : R} {B : Bx} : hrd hs (.ok r B) = .ok (.tuple [.str "told", r.1], false) B := (rfl)
@[simp] theorem hrd_ex {hs : List (Str × Nat)} {c : Nat} {w : D} {B : Bx} : hrd hs (.ex c w B) = .ok (.tuple [.str (heardOf hs c), w], false) B := (rfl)
theorem fault_fine (d : D) : (landFault d).plain = true ∧ nodes (landFault d) ≤ 3 := by
  have h : landFault d = .none ∨ ∃ (s : Str) (k : Int), landFault d = .tuple [.str s, .int k] := by
    unfold landFault
    split
    · split
      · exact .inr ⟨_, _, rfl⟩
      · split
        · exact .inr ⟨_, _, rfl⟩
        · split
          · exact .inr ⟨_, _, rfl⟩
          · exact .inl rfl
    · exact .inr ⟨_, _, rfl⟩
  rcases h with h | ⟨s, k, h⟩ <;> rw [h]
  · exact ⟨rfl, by simp [nodes]⟩
  · exact ⟨rfl, by simp [nodes, nodesL]⟩
theorem rngX_16 : rngX [.int 16] = some ((List.range 16).map fun (i : Nat) => .int (i : Int)) := rngX_nat (b := 16) (by decide)
theorem rngX_4 : rngX [.int 4] = some ((List.range 4).map fun (i : Nat) => .int (i : Int)) := rngX_nat (b := 4) (by decide)
end Pv
end
section
set_option linter.all false
set_option maxRecDepth 100000
namespace K05
open PySem PySem.W Pv
end K05
end
section
set_option linter.all false
set_option maxRecDepth 100000
namespace K05
open PySem PySem.W Pv
/-- right arguments up to a place, there a wrong one -/
theorem arguments_W {n : Nat} {right : List D} {odds : List (D × D)} {B : Bx} {X : Nat → D → Bx → Prop} (hB : JarOk B) (h1 : right ≠ []) (hl : right.length ≤ 100) (he : odds.length = right.length) :
    W (callF G (n + 3) i__law_uw_arguments [bref 0, .list right, .list (odds.map fun p => .tuple [p.1, p.2])] B)
      (fun r B' => JarOk B' ∧ ∃ (at' : Nat) (rest : List D), at' < right.length ∧ r = (.tuple [.list (right.take at' ++ (odds.getD at' (.none, .none)).1 :: rest), (odds.getD at' (.none, .none)).2], false) ∧ rest.length = right.length - (at' + 1) ∧
        ∀ j, j < rest.length → rest.getD j .none = right.getD (at' + 1 + j) .none ∨ rest.getD j .none = (odds.getD (at' + 1 + j) (.none, .none)).1) X := by
  have hr0 : 0 < right.length := List.length_pos_iff.mpr h1
  rw [call_eq (fd := F__law_uw_arguments) rfl rfl]
  simp [F__law_uw_arguments, slots0]
  refine (take_W hB (by omega) (by omega)).use ?_
  rintro r B1 ⟨jB1, v, rfl, v1, v2⟩
  obtain ⟨at', rfl⟩ : ∃ at' : Nat, v = at' := ⟨v.toNat, by omega⟩
  have hat : at' < right.length := by omega
  have hat2 : at' < odds.length := by omega
  have ho : atIx (odds.map fun p => PyData.tuple [p.1, p.2]) (at' : Int) = some (.tuple [(odds.getD at' (.none, .none)).1, (odds.getD at' (.none, .none)).2]) := by
    rw [atIx_map, atIx_nat hat2]; simp [List.getD, hat2]
  have hx := rngX_2 (a := at' + 1) (b := right.length) (by omega) (by omega)
  rw [show ((at' + 1 : Nat) : Int) = (at' : Int) + 1 by omega] at hx
  simp [cut_take (show 0 ≤ (at' : Int) by omega), ho, hx, jB1.nl, show at' ≤ 16777215 by omega, show min at' right.length ≤ 16777215 by omega]
  refine W_lcd (e := fun (i : Nat) => PyData.int ((at' : Int) + 1 + (i : Int))) (fun ys B => JarOk B ∧ ∀ j, j < ys.length → ys.getD j .none = right.getD (at' + 1 + j) .none ∨ ys.getD j .none = (odds.getD (at' + 1 + j) (.none, .none)).1) ⟨jB1, by simp⟩ ?_ ?_
  · rintro k hk ys B hyl ⟨jB, hys⟩
    rw [List.length_range] at hk
    rw [List.getElem_range]
    have hk1 : at' + 1 + k < right.length := by omega
    have hk2 : at' + 1 + k < odds.length := by omega
    have a1 : atIx right ((at' : Int) + 1 + (k : Int)) = some (right.getD (at' + 1 + k) .none) := by
      rw [show (at' : Int) + 1 + (k : Int) = ((at' + 1 + k : Nat) : Int) by omega, atIx_nat hk1]; simp [List.getD, hk1]
    have a2 : atIx (odds.map fun p => PyData.tuple [p.1, p.2]) ((at' : Int) + 1 + (k : Int)) = some (.tuple [(odds.getD (at' + 1 + k) (.none, .none)).1, (odds.getD (at' + 1 + k) (.none, .none)).2]) := by
      rw [show (at' : Int) + 1 + (k : Int) = ((at' + 1 + k : Nat) : Int) by omega, atIx_map, atIx_nat hk2]; simp [List.getD, hk2]
    refine W.use (Q' := fun o B' => JarOk B' ∧ ∃ d : D, o = some d ∧ (d = right.getD (at' + 1 + k) .none ∨ d = (odds.getD (at' + 1 + k) (.none, .none)).1)) ?_ ?_
    · simp only [List.getD_eq_getElem?_getD] at *
      simp [m_lcF, a1, a2]
      refine (one_W jB (by simp) (by simp)).use ?_
      rintro r B' ⟨jB', d, hd, rfl⟩
      simp at hd
      simp
      exact ⟨jB', hd⟩
    · rintro o B' ⟨jB', d, rfl, hd⟩
      refine ⟨d, rfl, jB', fun j hj => ?_⟩
      rw [List.length_append, List.length_singleton] at hj
      by_cases hjk : j < ys.length
      · have := hys j hjk
        simpa [List.getElem?_append, hjk] using this
      · have : j = k := by omega
        subst this
        simp only [List.getD_eq_getElem?_getD] at *
        rw [← hyl]
        simpa [hyl] using hd
  · rintro ys B hyl ⟨jB, hys⟩
    rw [List.length_range] at hyl
    have hmin : min at' right.length = at' := by omega
    simp [hmin, hyl]
    rw [if_pos (by omega)]
    simp [ho]
    refine ⟨jB, at', hat, ys, ?_, by omega, ?_⟩
    · simp
    · intro j hj
      simpa using hys j (by omega)
end K05
end
section
set_option linter.all false
set_option maxRecDepth 100000
namespace Pv
open PySem PySem.W
/-! V0: vans, lots, spares, said plainly -/
def rowFault : Nat → List D → D
  | _, [] => .none
  | k, x :: xs => if wholeP x 0 10000000 then rowFault (k + 1) xs else .int (k : Int)
def vansFault (n : Nat) : D → D
  | .tuple xs => if xs.length = n then rowFault 0 xs else .int (-1)
  | _ => .int (-1)
def lotFaultL (n : Int) : Int → Nat → List D → D
  | _, _, [] => .none
  | k, at', x :: xs => match x with
    | .int p => if k ≤ p ∧ p ≤ n - 1 then lotFaultL n (p + 1) (at' + 1) xs else .int (at' : Int)
    | _ => .int (at' : Int)
def lotFaultD (n : Int) : D → D
  | .tuple xs => lotFaultL n 0 0 xs
  | _ => .int (-1)
def sumIn (vs : List Int) (l : List Int) : Int := (l.map fun p => vs.getD p.toNat 0).sum
def floorAt (ps : List Pl) (p : Int) : Int := (ps.getD p.toNat (0, 0)).1
def lotI (L : Land) : D → List Int
  | .tuple [.str s, .int p] => if s = "floor" then [p] else if s = "region" then (L.rs.getD p.toNat ([], 0)).1 else ((List.range L.ps.length).filter fun (i : Nat) => !decide ((i : Int) = p)).map fun (i : Nat) => (i : Int)
  | _ => []
theorem lotD_I {L : Land} {s : Str} {p : Int} : lotD L (.tuple [.str s, .int p]) = .tuple ((lotI L (.tuple [.str s, .int p])).map .int) := by
  unfold lotD lotI
  simp only
  split
  · rfl
  · split
    · rfl
    · rw [List.map_map]; rfl
def spareI (L : Land) (vs : List Int) : D → Int
  | .tuple [.str s, .int p] => if s = "room" then roomAt L.ps p - vs.getD p.toNat 0 else sumIn vs (lotI L (.tuple [.str s, .int p])) - (if s = "floor" then floorAt L.ps p else (L.rs.getD p.toNat ([], 0)).2)
  | _ => 0
def VansOk (n : Nat) (vs : List Int) : Prop := vs.length = n ∧ ∀ v ∈ vs, 0 ≤ v ∧ v ≤ 10000000
theorem rowFault_ok : ∀ {vs : List Int} {k : Nat}, (∀ v ∈ vs, 0 ≤ v ∧ v ≤ 10000000) → rowFault k (vs.map .int) = .none
  | [], _, _ => rfl
  | v :: vs, k, h => by
    have h1 := h v List.mem_cons_self
    rw [List.map_cons, rowFault, if_pos (by simp [h1])]
    exact rowFault_ok fun w hw => h w (List.mem_cons_of_mem _ hw)
theorem vansFault_ok {n : Nat} {vs : List Int} (h : VansOk n vs) : vansFault n (.tuple (vs.map .int)) = .none := by
  unfold vansFault
  simp only
  rw [if_pos (by rw [List.length_map]; exact h.1), rowFault_ok h.2]
theorem lotFault_ok {n : Int} : ∀ {l : List Int} {k : Int} {a : Nat}, Rise n k l → lotFaultL n k a (l.map .int) = .none
  | [], _, _, _ => rfl
  | p :: l, k, a, ⟨h1, h2, h3⟩ => by
    rw [List.map_cons, lotFaultL]
    rw [if_pos ⟨h1, by omega⟩, lotFault_ok h3]
theorem rowFault_cases : ∀ {xs : List D} {k : Nat}, rowFault k xs = .none ∨ ∃ i : Int, rowFault k xs = .int i
  | [], _ => .inl rfl
  | x :: xs, k => by
    rw [rowFault]
    split
    · exact rowFault_cases
    · exact .inr ⟨_, rfl⟩
theorem vansFault_cases {n : Nat} {d : D} : vansFault n d = .none ∨ ∃ i : Int, vansFault n d = .int i := by
  unfold vansFault
  split
  · split
    · exact rowFault_cases
    · exact .inr ⟨_, rfl⟩
  · exact .inr ⟨_, rfl⟩
theorem lotFaultL_cases {n : Int} : ∀ {xs : List D} {k : Int} {a : Nat}, lotFaultL n k a xs = .none ∨ ∃ i : Int, lotFaultL n k a xs = .int i
  | [], _, _ => .inl rfl
  | x :: xs, k, a => by
    cases x with
    | int p =>
      rw [lotFaultL]
      split
      · exact lotFaultL_cases
      · exact .inr ⟨_, rfl⟩
    | _ => exact .inr ⟨(a : Int), by simp [lotFaultL]⟩
theorem lotFaultD_cases {n : Int} {d : D} : lotFaultD n d = .none ∨ ∃ i : Int, lotFaultD n d = .int i := by
  unfold lotFaultD
  split
  · exact lotFaultL_cases
  · exact .inr ⟨_, rfl⟩
theorem lotI_mem {L : Land} (hL : LandOk L) {d : D} (hd : isLimB L d = true) : ∀ p ∈ lotI L d, 0 ≤ p ∧ p < L.ps.length := by
  intro p hp
  unfold lotI at hp
  split at hp
  · rename_i s i
    unfold isLimB at hd
    simp only at hd
    split at hp
    · rename_i h1
      simp [h1] at hd
      rw [List.mem_singleton.mp hp]; omega
    · split at hp
      · rename_i h1 h2
        simp [h2] at hd
        have hlt : i.toNat < L.rs.length := by omega
        simp [List.getD, hlt] at hp
        exact (hL.rgs.mem _ (List.getElem_mem hlt)).1.2.2.2.2.mem p hp
      · simp at hp
        omega
  · cases hp
theorem sumIn_D {vs l : List Int} : intsOf (l.map fun p => PyData.int (vs.getD p.toNat 0)) = some (l.map fun p => vs.getD p.toNat 0) := by
  rw [← intsOf_map, List.map_map]; rfl
theorem W_seq_nx {C : Cl} {a b : S} {ρ ρ1 : List Sl} {B B1 : Bx} {Q : Fl → Bx → Prop} {X : Nat → D → Bx → Prop} (h : ex C a ρ B = .ok (.nx ρ1) B1) (q : W (ex C b ρ1 B1) Q X) : W (ex C (.seq a b) ρ B) Q X := by
  rw [ex_seq, h]
  simpa using q
/-- .. a first statement that draws -/
theorem W_seq {C : Cl} {a b : S} {ρ : List Sl} {B : Bx} {Q : Fl → Bx → Prop} {X : Nat → D → Bx → Prop} (q : W (ex C a ρ B) (fun f B => W (nxt f (fun ρ => ex C b ρ B) B) Q X) X) : W (ex C (.seq a b) ρ B) Q X := by
  rw [ex_seq, W_bnd]
  exact q
end Pv
end
section
set_option linter.all false
set_option maxRecDepth 100000
namespace K05
open PySem PySem.W Pv
/-! V1: the program's vans and spares -/
theorem vans_walk {n : Nat} {x0 x1 : Sl} {B : Bx} : ∀ {xs : List D} {k : Nat} {s2 s3 : Sl}, (∀ d ∈ xs, d.plain = true) →
    W (forL (turn (callF G (n + 1)) (.tp (.cons (.n 2) (.cons (.n 3) .nil))) L_vans_fault_0) (enumL k xs) [x0, x1, s2, s3] B)
      (fun f B' => B' = B ∧ (rowFault k xs = .none → ∃ ρ, f = .nx ρ) ∧ ∀ i, rowFault k xs = .int i → f = .rt (.int i) false) NoX
  | [], k, s2, s3, _ => by simp [enumL, forL, rowFault]
  | d :: ds, k, s2, s3, h => by
    have hd := nd_plain (h d List.mem_cons_self)
    have ih := fun k s2 s3 => vans_walk (n := n) (x0 := x0) (x1 := x1) (B := B) (xs := ds) (k := k) (s2 := s2) (s3 := s3) fun y hy => h y (List.mem_cons_of_mem _ hy)
    rw [enumL, forL, W_bind]
    simp [turn, L_vans_fault_0, whole_ok hd]
    cases hp : wholeP d 0 10000000 with
    | true =>
      simp [rowFault, hp]
      exact ih _ _ _
    | false =>
      simp [rowFault, hp]
theorem vans_fault_ok {n : Nat} {L : Land} {d : D} {B : Bx} (h : d.plain = true) : callF G (n + 2) i_vans_fault [dLand L, d] B = .ok (vansFault L.ps.length d, false) B := by
  rw [call_eq (fd := F_vans_fault) rfl rfl, dLand_eq]
  refine W.eq ?_
  have h0 := nd_plain h
  cases d with
  | dict _ => cases h0
  | tuple xs =>
    simp [F_vans_fault, slots0, vansFault]
    by_cases hl : xs.length = L.ps.length
    · have hi : (xs.length : Int) = (L.ps.length : Int) := by omega
      simp [hl, hi]
      refine (vans_walk (n := n) (by simpa [PyData.plain, plainAll_iff] using h)).use ?_
      rintro f B' ⟨rfl, h1, h2⟩
      rcases rowFault_cases (xs := xs) (k := 0) with e | ⟨i, e⟩
      · obtain ⟨ρ, rfl⟩ := h1 e; simp [e]
      · rw [h2 _ e]; simp [e]
    · have hi : ¬ (xs.length : Int) = (L.ps.length : Int) := by omega
      simp [hl, hi]
  | _ => simp [F_vans_fault, slots0, vansFault]
theorem asked_vans_ok {n : Nat} {L : Land} {d : D} {B : Bx} (h : d.plain = true) (hf : vansFault L.ps.length d = .none) : callF G (n + 3) i_asked_vans [dLand L, d] B = .ok (.none, false) B := by
  rw [call_eq (fd := F_asked_vans) rfl rfl]
  refine W.eq ?_
  simp [F_asked_vans, slots0, vans_fault_ok h, hf]
theorem asked_vans_x {n : Nat} {L : Land} {d : D} {B : Bx} (h : d.plain = true) (hf : vansFault L.ps.length d ≠ .none) : callF G (n + 3) i_asked_vans [dLand L, d] B = .ex e_BadVans (vansFault L.ps.length d) B := by
  rw [call_eq (fd := F_asked_vans) rfl rfl]
  refine W.eqx ?_
  rcases vansFault_cases (n := L.ps.length) (d := d) with e | ⟨i, e⟩
  · exact absurd e hf
  · simp [F_asked_vans, slots0, vans_fault_ok h, e]
theorem at_vans {vs : List Int} {p : Int} (h1 : 0 ≤ p) (h2 : p < vs.length) : atIx (vs.map PyData.int) p = some (.int (vs.getD p.toNat 0)) := by
  have hlt : p.toNat < vs.length := by omega
  rw [atIx_map, atIx_nn h1 h2]; simp [List.getD, hlt]
theorem sum_in_ok {n : Nat} {vs l : List Int} {B : Bx} (h : ∀ p ∈ l, 0 ≤ p ∧ p < vs.length) : callF G (n + 1) i_sum_in [.tuple (vs.map .int), .tuple (l.map .int)] B = .ok (.int (sumIn vs l), false) B := by
  rw [call_eq (fd := F_sum_in) rfl rfl]
  refine W.eq ?_
  simp [F_sum_in, slots0]
  refine W_lcm (u := fun p => .int (vs.getD p.toNat 0)) (fun p hp => W.eq ?_) ?_
  · obtain ⟨h1, h2⟩ := h p hp
    simp [m_lcF, at_vans h1 h2]
  · simp only [sumIn_D, Option.map_some, opt_some, W_ok]
    simp [sumIn]
theorem spare_in_ok {n : Nat} {L : Land} {vs : List Int} {s : Str} {p : Int} {B : Bx} (hL : LandOk L) (hv : vs.length = L.ps.length) (hl : isLimB L (.tuple [.str s, .int p]) = true) : callF G (n + 2) i_spare_in [dLand L, .tuple (vs.map .int), .tuple [.str s, .int p]] B = .ok (.int (spareI L vs (.tuple [.str s, .int p])), false) B := by
  have hm := hL.many
  have hmem := lotI_mem hL hl
  have li := lot_in_ok (n := n) (B := B) (show L.ps.length ≤ 1000 by omega) hl
  have si := sum_in_ok (n := n) (vs := vs) (B := B) (l := lotI L (.tuple [.str s, .int p])) (by rw [hv]; exact hmem)
  rw [lotD_I] at li
  rw [call_eq (fd := F_spare_in) rfl rfl]
  refine W.eq ?_
  rw [dLand_eq] at li ⊢
  simp [isLimB] at hl
  by_cases h1 : s = "room"
  · subst h1
    simp at hl
    have hlt : p.toNat < L.ps.length := by omega
    have e := at_room (ps := L.ps) (p := p) (by omega) (by omega)
    simp [F_spare_in, slots0, e, dPl, at_vans (vs := vs) (p := p) (by omega) (by omega), spareI, roomAt, List.getD, hlt]
  · by_cases h2 : s = "floor"
    · subst h2
      simp at hl
      have hlt : p.toNat < L.ps.length := by omega
      have e := at_room (ps := L.ps) (p := p) (by omega) (by omega)
      simp [F_spare_in, slots0, e, dPl, li, si, spareI, floorAt, List.getD, hlt]
    · by_cases h3 : s = "region"
      · subst h3
        simp at hl
        have hlt : p.toNat < L.rs.length := by omega
        have e : atIx (L.rs.map dRg) p = some (dRg L.rs[p.toNat]) := by rw [atIx_map, atIx_nn (by omega) (by omega)]; rfl
        simp [F_spare_in, slots0, e, dRg, li, si, spareI, List.getD, hlt]
      · simp [h1, h2, h3] at hl
end K05
end
section
set_option linter.all false
set_option maxRecDepth 100000
namespace K05
open PySem PySem.W Pv
/-- land, vans: what is asked of both -/
theorem asked_standing_ok {n : Nat} {L : Land} {d : D} {B : Bx} (hB : nlB B = true) (hL : LandOk L) (hr : L.rs.length ≤ 40) (h : d.plain = true) (hf : vansFault L.ps.length d = .none) : callF G (n + 6) i_asked_standing [dLand L, d] B = .ok (.none, false) B := by
  rw [call_eq (fd := F_asked_standing) rfl rfl]
  refine W.eq ?_
  simp [F_asked_standing, slots0, asked_ok hB plain_dLand (dLand_fine hL hr).node hL.fault, asked_vans_ok h hf]
theorem asked_standing_v {n : Nat} {L : Land} {d : D} {B : Bx} (hB : nlB B = true) (hL : LandOk L) (hr : L.rs.length ≤ 40) (h : d.plain = true) (hf : vansFault L.ps.length d ≠ .none) : callF G (n + 6) i_asked_standing [dLand L, d] B = .ex e_BadVans (vansFault L.ps.length d) B := by
  rw [call_eq (fd := F_asked_standing) rfl rfl]
  refine W.eqx ?_
  simp [F_asked_standing, slots0, asked_ok hB plain_dLand (dLand_fine hL hr).node hL.fault, asked_vans_x h hf]
theorem under_way_nil {n : Nat} {L : Land} {s : Str} {p : Int} {B : Bx} (hl : isLimB L (.tuple [.str s, .int p]) = true) : callF G (n + 1) i_under_way [dLand L, .tuple [.str s, .int p], .list []] B = .ok (.int 0, false) B := by
  rw [call_eq (fd := F_under_way) rfl rfl, dLand_eq]
  refine W.eq ?_
  simp [isLimB] at hl
  by_cases h2 : s = "floor"
  · simp [F_under_way, slots0, h2]
  · by_cases h1 : s = "room"
    · simp [F_under_way, slots0, h1, lcL]
    · by_cases h3 : s = "region"
      · subst h3
        simp at hl
        have e : atIx (L.rs.map dRg) p = some (dRg (L.rs[p.toNat]'(by omega))) := by rw [atIx_map, atIx_nn (by omega) (by omega)]; rfl
        simp [F_under_way, slots0, e, dRg, lcL]
      · simp [h1, h2, h3] at hl
def sparesD (L : Land) (vs : List Int) : List D := (limitsD L).map fun d => .int (spareI L vs d)
theorem spares_now_ok {n : Nat} {L : Land} {vs : List Int} {B : Bx} (hL : LandOk L) (hv : vs.length = L.ps.length) : callF G (n + 3) i_spares_now [dLand L, .list (limitsD L), .tuple (vs.map .int), .list []] B = .ok (.list (sparesD L vs), true) B := by
  rw [call_eq (fd := F_spares_now) rfl rfl]
  refine W.eq ?_
  simp [F_spares_now, slots0]
  have := W_lcm (e := id) (u := fun d => PyData.int (spareI L vs d)) (f := m_lcF (callF G (n + 2)) (.n 4) [4] (.bin .Add (.call i_spare_in (.cons (.v 0) (.cons (.v 2) (.cons (.v 4) .nil)))) (.call i_under_way (.cons (.v 0) (.cons (.v 4) (.cons (.v 3) .nil))))) (.k (.bool true)) [.vl (dLand L), .vl (.list (limitsD L)), .vl (.tuple (vs.map .int)), .vl (.list []), .un]) (B := B) (xs := limitsD L) (Q := fun a B' => a = sparesD L vs ∧ B' = B) (X := NoX) (fun d hd => W.eq ?_) ⟨rfl, rfl⟩
  · rw [List.map_id] at this
    refine this.use ?_
    rintro a B' ⟨rfl, rfl⟩
    simp
  · obtain ⟨s, i, rfl, hl⟩ := limitsD_mem hd
    simp [m_lcF, spare_in_ok hL hv hl, under_way_nil hl]
end K05
end
section
set_option linter.all false
set_option maxRecDepth 100000
set_option exponentiation.threshold 5000
namespace Pv
open PySem PySem.W
def vansDue (n : Nat) (d : D) : D := match vansFault n d with
  | .none => .none
  | k => .tuple [.str "BadVans", k]
theorem vansDue_x {n : Nat} {d : D} (h : vansFault n d ≠ .none) : vansDue n d = .tuple [.str "BadVans", vansFault n d] := by
  unfold vansDue
  rcases vansFault_cases (n := n) (d := d) with e | ⟨i, e⟩
  · exact absurd e h
  · rw [e]
theorem vansDue_ok {n : Nat} {d : D} (h : vansFault n d = .none) : vansDue n d = .none := by
  unfold vansDue; rw [h]
theorem rowFault_bad : ∀ {xs ys : List D} {x : D} {k : Nat}, wholeP x 0 10000000 = false → rowFault k (xs ++ x :: ys) ≠ .none
  | [], ys, x, k, h => by rw [List.nil_append, rowFault, h]; simp
  | z :: xs, ys, x, k, h => by
    rw [List.cons_append, rowFault]
    split
    · exact rowFault_bad h
    · simp
end Pv
namespace K05
open PySem PySem.W Pv
theorem rows_fault_ok {n m : Nat} {d : D} {B : Bx} (h : d.plain = true) (hm : m ≤ 1000) : callF G (n + 3) i__law_uw_rows_fault [d, .int m, .int 10000000, .str "BadVans"] B = .ok (vansDue m d, false) B := by
  rw [call_eq (fd := F__law_uw_rows_fault) rfl rfl]
  refine W.eq ?_
  have h0 := nd_plain h
  cases d with
  | dict _ => cases h0
  | tuple xs =>
    by_cases hl : xs.length = m
    · have hi : (xs.length : Int) = (m : Int) := by omega
      simp [F__law_uw_rows_fault, slots0, hi, rngX_nat (show m ≤ 16777216 by omega)]
      subst hl
      refine W_forR (fun k ρ B' => B' = B ∧ (∃ s4, ρ = [.vl (.tuple xs), .vl (.int xs.length), .vl (.int 10000000), .vl (.str "BadVans"), s4]) ∧ rowFault 0 xs = rowFault k (xs.drop k)) ⟨rfl, ⟨_, rfl⟩, rfl⟩ ?_ ?_
      · rintro k hk ρ B' ⟨rfl, ⟨s4, rfl⟩, hr⟩
        have hp : ∀ d ∈ xs, d.plain = true := by simpa [PyData.plain, plainAll_iff] using h
        have hd := nd_plain (hp xs[k] (List.getElem_mem hk))
        rw [List.drop_eq_getElem_cons hk, rowFault] at hr
        simp [turn, L__law_uw_rows_fault_0, atIx_nat hk, uw_in_ok hd]
        cases hw : wholeP xs[k] 0 10000000 with
        | true =>
          rw [hw] at hr
          simp at hr
          simp [hr]
        | false =>
          rw [hw] at hr
          simp at hr
          simp [vansDue, vansFault, hr]
      · rintro ρ B' ⟨rfl, ⟨s4, rfl⟩, hr⟩
        rw [List.drop_length, rowFault] at hr
        simp [vansDue, vansFault, hr]
    · have hi : ¬ (xs.length : Int) = (m : Int) := by omega
      simp [F__law_uw_rows_fault, slots0, hi, vansDue, vansFault, hl]
  | _ => simp [F__law_uw_rows_fault, slots0, vansDue, vansFault]
theorem uw_vans_fault_ok {n : Nat} {L : Land} {d : D} {B : Bx} (hL : LandOk L) (h : d.plain = true) : callF G (n + 4) i__law_uw_vans_fault [dLand L, d] B = .ok (vansDue L.ps.length d, false) B := by
  have hm := hL.many
  rw [call_eq (fd := F__law_uw_vans_fault) rfl rfl, dLand_eq]
  exact W.eq (by simp [F__law_uw_vans_fault, slots0, rows_fault_ok h (show L.ps.length ≤ 1000 by omega)])
/-- the own first wrong entry of a lot -/
theorem uw_lotf_ok {n : Nat} {c : Int} {d : D} {B : Bx} (h : d.plain = true) (hn : nodes d ≤ 16777216) : callF G (n + 3) i__law_uw_lot_fault [d, .int c] B = .ok (lotFaultD c d, false) B := by
  rw [call_eq (fd := F__law_uw_lot_fault) rfl rfl]
  refine W.eq ?_
  have h0 := nd_plain h
  cases d with
  | dict _ => cases h0
  | tuple ds =>
    have hl : ds.length ≤ 16777216 := by have := nodesL_len ds; simp [nodes] at hn; omega
    have hp : ∀ d ∈ ds, d.plain = true := by simpa [PyData.plain, plainAll_iff] using h
    simp [F__law_uw_lot_fault, slots0, rngX_nat hl, lotFaultD]
    refine W_forR (fun k ρ B' => B' = B ∧ ∃ (last : Int) (s3 : Sl), ρ = [.vl (.tuple ds), .vl (.int c), .vl (.int last), s3] ∧ lotFaultL c 0 0 ds = lotFaultL c (last + 1) k (ds.drop k)) ⟨rfl, -1, .un, rfl, rfl⟩ ?_ ?_
    · rintro k hk ρ B' ⟨rfl, last, s3, rfl, hr⟩
      have hd := nd_plain (hp ds[k] (List.getElem_mem hk))
      rw [List.drop_eq_getElem_cons hk] at hr
      simp [turn, L__law_uw_lot_fault_0, atIx_nat hk, uw_in_ok hd]
      cases he : ds[k] with
      | int p =>
        rw [he, lotFaultL] at hr
        by_cases h1 : last + 1 ≤ p
        · by_cases h2 : p ≤ c - 1
          · rw [if_pos ⟨h1, h2⟩] at hr
            simp [h1, h2, atIx_nat hk, he, hr]
          · rw [if_neg (by omega)] at hr
            simp [h1, h2, hr]
        · rw [if_neg (by omega)] at hr
          simp [h1, hr]
      | _ =>
        rw [he] at hr
        simp [lotFaultL] at hr
        simp [wholeP, hr]
    · rintro ρ B' ⟨rfl, last, s3, rfl, hr⟩
      rw [List.drop_length, lotFaultL] at hr
      simp [hr]
  | _ => simp [F__law_uw_lot_fault, slots0, lotFaultD]
theorem uw_spare_ok {n : Nat} {L : Land} {vs : List Int} {s : Str} {p : Int} {B : Bx} (hL : LandOk L) (hv : vs.length = L.ps.length) (hl : isLimB L (.tuple [.str s, .int p]) = true) : callF G (n + 2) i__law_uw_spare [dLand L, .tuple (vs.map .int), .tuple [.str s, .int p]] B = .ok (.int (spareI L vs (.tuple [.str s, .int p])), false) B := by
  have hm := hL.many
  have hmem := lotI_mem hL hl
  have li := uw_lot_d (n := n) (B := B) (show L.ps.length ≤ 1000 by omega) hl
  rw [lotD_I] at li
  have sm : ∀ (ρ : List Sl) (s3 : Sl), ρ = [.vl (dLand L), .vl (.tuple (vs.map .int)), .vl (.tuple [.str s, .int p]), s3, .un] → lcL (m_lcF (callF G (n + 1)) (.n 4) [4] (.idx (.v 1) (.v 4)) (.k (.bool true)) ρ) ((lotI L (.tuple [.str s, .int p])).map .int) B = .ok ((lotI L (.tuple [.str s, .int p])).map fun p => .int (vs.getD p.toNat 0)) B := by
    rintro ρ s3 rfl
    refine W.eq (W_lcm (u := fun p => .int (vs.getD p.toNat 0)) (fun p hp => W.eq ?_) ⟨rfl, rfl⟩)
    obtain ⟨h1, h2⟩ := hmem p hp
    simp [m_lcF, at_vans (vs := vs) h1 (by omega)]
  rw [call_eq (fd := F__law_uw_spare) rfl rfl]
  refine W.eq ?_
  rw [dLand_eq] at li sm ⊢
  simp [isLimB] at hl
  by_cases h1 : s = "room"
  · subst h1
    simp at hl
    have hlt : p.toNat < L.ps.length := by omega
    have e := at_room (ps := L.ps) (p := p) (by omega) (by omega)
    simp [F__law_uw_spare, slots0, e, dPl, at_vans (vs := vs) (p := p) (by omega) (by omega), spareI, roomAt, List.getD, hlt]
  · by_cases h2 : s = "floor"
    · subst h2
      simp at hl
      have hlt : p.toNat < L.ps.length := by omega
      have e := at_room (ps := L.ps) (p := p) (by omega) (by omega)
      simp [F__law_uw_spare, slots0, e, dPl, li]
      rw [sm _ _ rfl]
      simp only [W_ok, sumIn_D, Option.map_some, opt_some]
      simp [spareI, sumIn, floorAt, List.getD, hlt]
    · by_cases h3 : s = "region"
      · subst h3
        simp at hl
        have hlt : p.toNat < L.rs.length := by omega
        have e : atIx (L.rs.map dRg) p = some (dRg L.rs[p.toNat]) := by rw [atIx_map, atIx_nn (by omega) (by omega)]; rfl
        simp [F__law_uw_spare, slots0, e, dRg, li]
        rw [sm _ _ rfl]
        simp only [W_ok, sumIn_D, Option.map_some, opt_some]
        simp [spareI, sumIn, List.getD, hlt]
      · simp [h1, h2, h3] at hl
end K05
end
section
set_option linter.all false
set_option maxRecDepth 100000
set_option exponentiation.threshold 5000
namespace K05
open PySem PySem.W Pv
theorem vans_W {n : Nat} {L : Land} {B : Bx} {X : Nat → D → Bx → Prop} (hB : JarOk B) (hL : LandOk L) : W (callF G (n + 3) i__law_uw_vans [bref 0, dLand L] B)
    (fun r B' => JarOk B' ∧ ∃ vs : List Int, r = (.tuple (vs.map .int), false) ∧ VansOk L.ps.length vs) X := by
  have hm := hL.many
  rw [call_eq (fd := F__law_uw_vans) rfl rfl, dLand_eq]
  simp [F__law_uw_vans, slots0, hB.nl]
  refine W_for (e := dPl) (fun k ρ B => JarOk B ∧ ∃ (vs : List Int) (s3 s4 s5 : Sl), ρ = [.vl (bref 0), .vl (.tuple [.tuple (L.ps.map dPl), .tuple (L.rs.map dRg)]), .ow (vs.map .int), s3, s4, s5] ∧ VansOk k vs) 0 ⟨hB, [], _, _, _, rfl, rfl, by simp⟩ ?_ ?_
  · rintro k hk ρ B ⟨jB, vs, s3, s4, s5, rfl, hv⟩
    rw [Nat.zero_add] at *
    obtain ⟨p1, p2, p3⟩ := hL.pls _ (List.getElem_mem hk)
    have hvl := hv.1
    refine W.use (Q' := fun f B' => JarOk B' ∧ ∃ (v : Int) (s3 s4 s5 : Sl), f = .nx [.vl (bref 0), .vl (.tuple [.tuple (L.ps.map dPl), .tuple (L.rs.map dRg)]), .ow ((vs ++ [v]).map .int), s3, s4, s5] ∧ 0 ≤ v ∧ v ≤ 10000000) ?_ ?_
    · generalize L.ps[k] = p at p1 p2 p3
      have key : ∀ top : Int, 0 ≤ top → W (ex (callF G (n + 2)) (.seq (.app 2 (.bi .min2 (.cons (.bin .Pow (.k (.int 10)) (.k (.int 7))) (.cons (.call i__law_one (.cons (.v 0) (.cons (.lst (.cons (.v 3) (.cons (.v 3) (.cons (.bin .Add (.v 3) (.k (.int 1))) (.cons (.bin .Add (.v 3) (.k (.int 2))) (.cons (.v 5) (.cons (.call i__law_take (.cons (.v 0) (.cons (.k (.int 5)) .nil))) (.cons (.k (.int 0)) .nil)))))))) .nil))) .nil)))) (.nop)) [.vl (bref 0), .vl (.tuple [.tuple (L.ps.map dPl), .tuple (L.rs.map dRg)]), .ow (vs.map .int), .vl (.int p.1), .vl (.int p.2), .vl (.int top)] B)
          (fun f B' => JarOk B' ∧ ∃ (v : Int) (s3 s4 s5 : Sl), f = .nx [.vl (bref 0), .vl (.tuple [.tuple (L.ps.map dPl), .tuple (L.rs.map dRg)]), .ow ((vs ++ [v]).map .int), s3, s4, s5] ∧ 0 ≤ v ∧ v ≤ 10000000) NoX := by
        intro top ht
        simp
        refine (take_W jB (by omega) (by omega)).use ?_
        rintro r B1 ⟨jB1, t, rfl, t1, t2⟩
        simp
        refine (one_W jB1 (by simp) (by simp)).use ?_
        rintro r B2 ⟨jB2, d, hd, rfl⟩
        have hu : ∃ u : Int, d = .int u ∧ 0 ≤ u := by
          simp at hd
          rcases hd with rfl | rfl | rfl | rfl | rfl | rfl <;> exact ⟨_, rfl, by omega⟩
        obtain ⟨u, rfl, hu⟩ := hu
        simp [show vs.length < 16777216 by omega]
        exact ⟨jB2, by split <;> omega, by split <;> omega⟩
      simp [turn, L__law_uw_vans_0, dPl] at key ⊢
      by_cases h : p.2 = -1
      · simp [h] at key ⊢
        exact key 10000000 (by omega)
      · simp [h]
        exact key p.2 (by omega)
    · rintro f B' ⟨jB', v, s3, s4, s5, rfl, h1, h2⟩
      refine ⟨jB', vs ++ [v], s3, s4, s5, rfl, by simp [hvl], fun w hw => ?_⟩
      rcases List.mem_append.mp hw with hw | hw
      · exact hv.2 w hw
      · rw [List.mem_singleton.mp hw]; exact ⟨h1, h2⟩
  · rintro ρ B ⟨jB, vs, s3, s4, s5, rfl, hv⟩
    rw [Nat.zero_add] at *
    simp
    exact ⟨jB, vs, rfl, hv⟩
theorem odd_vans_W {n : Nat} {L : Land} {B : Bx} {X : Nat → D → Bx → Prop} (hB : JarOk B) (hL : LandOk L) : W (callF G (n + 5) i__law_uw_odd_vans [bref 0, dLand L] B)
    (fun r B' => JarOk B' ∧ ∃ d : D, r = (.tuple [d, .tuple [.str "BadVans", vansFault L.ps.length d]], false) ∧ Fine d ∧ vansFault L.ps.length d ≠ .none) X := by
  have hm := hL.many
  rw [call_eq (fd := F__law_uw_odd_vans) rfl rfl]
  have dl : ∀ B : Bx, idxD B (dLand L) (.int 0) = some (.tuple (L.ps.map dPl)) := fun B => by simp [dLand]
  have bad : ∀ d : D, vansFault L.ps.length d ≠ .none → vansDue L.ps.length d = .tuple [.str "BadVans", vansFault L.ps.length d] := fun d h => vansDue_x h
  have uw := fun (d : D) (B : Bx) (h : d.plain = true) => uw_vans_fault_ok (n := n) (B := B) hL h
  generalize hN : L.ps.length = N at *
  have start : ∀ (f0 : List D), AllFine f0 → (∀ d ∈ f0, vansFault N d ≠ .none) → f0 ≠ [] → f0.length ≤ 10 → W (ex (callF G (n + 4)) (.seq (.for (.n 4) (.lst (.cons (.neg (.k (.int 1))) (.cons (.bin .Add (.bin .Pow (.k (.int 10)) (.k (.int 7))) (.k (.int 1))) (.cons (.k (.bool true)) (.cons (.k .none) (.cons (.k (.str "0")) (.cons (.tup (.cons (.k (.int 0)) .nil)) (.cons (.bin .Pow (.k (.int 10)) (.k (.int 20))) .nil)))))))) L__law_uw_odd_vans_0) (.seq (.frz 3) (.seq (.set false 5 (.call i__law_one (.cons (.v 0) (.cons (.v 3) .nil)))) (.seq (.ret (.tup (.cons (.v 5) (.cons (.call i__law_uw_vans_fault (.cons (.v 1) (.cons (.v 5) .nil))) .nil)))) (.nop))))) [.vl (bref 0), .vl (dLand L), .vl (.int N), .ow f0, .un, .un, .un] B)
      (fun f B' => JarOk B' ∧ ∃ d : D, f = .rt (.tuple [d, .tuple [.str "BadVans", vansFault N d]]) false ∧ Fine d ∧ vansFault N d ≠ .none) NoX := by
    intro f0 hf0 hb0 hne hl0
    simp
    refine W_forD (fun k ρ B => JarOk B ∧ ∃ (found : List D) (s4 s5 s6 : Sl), ρ = [.vl (bref 0), .vl (dLand L), .vl (.int N), .ow found, s4, s5, s6] ∧ AllFine found ∧ (∀ d ∈ found, vansFault N d ≠ .none) ∧ found ≠ [] ∧ found.length ≤ 10 + k) ⟨hB, f0, _, _, _, rfl, hf0, hb0, hne, hl0⟩ ?_ ?_
    · rintro k hk odd hodd ρ B ⟨jB, found, s4, s5, s6, rfl, h1, h2, h3, h4⟩
      simp at hk
      have ho : wholeP odd 0 10000000 = false ∧ odd.plain = true ∧ nodes odd ≤ 2 := by
        simp at hodd
        rcases hodd with rfl | rfl | rfl | rfl | rfl | rfl | rfl <;> exact ⟨by simp [wholeP], rfl, by simp [nodes, nodesL]⟩
      refine W.use (Q' := fun f B' => JarOk B' ∧ ∃ (es : List D) (s4 s5 s6 : Sl), f = .nx [.vl (bref 0), .vl (dLand L), .vl (.int N), .ow (found ++ es), s4, s5, s6] ∧ AllFine es ∧ (∀ d ∈ es, vansFault N d ≠ .none) ∧ es.length ≤ 1) ?_ ?_
      · simp [turn, L__law_uw_odd_vans_0]
        refine (take_W jB (by split <;> omega) (by split <;> omega)).use ?_
        rintro r B' ⟨jB', v, rfl, v1, v2⟩
        by_cases hN0 : 0 < N
        · have hv : v < N := by split at v2 <;> omega
          have w1 : -1000 ≤ v ∧ v ≤ 1000 := by omega
          have w2 : -1000 ≤ (N : Int) - 1 - v ∧ (N : Int) - 1 - v ≤ 1000 := by omega
          have e0 : v.toNat + 1 ≤ 16777216 := by omega
          have e1 : v.toNat + 1 + ((N : Int) - 1 - v).toNat ≤ 16777216 := by omega
          have e1' : v.toNat + (1 + ((N : Int) - 1 - v).toNat) ≤ 16777216 := by omega
          have e2 : v.toNat + (((N : Int) - 1 - v).toNat + 1) ≤ 16777216 := by omega
          have e3 : v.toNat ≤ 16777215 := by omega
          simp [hN0, w1, w2, e0, e1, e1', e2, e3, show found.length ≤ 16777215 by omega]
          refine ⟨jB', AllFine.cons ⟨?_, ?_⟩ AllFine.nil, ?_⟩
          · simp only [PyData.plain, plainAll_append, PyData.plainAll, ho.2.1, plainAll_rep (d := .int 0) rfl, plainAll_rep (d := .none) rfl, Bool.and_self]
          · simp [nodes, nodesL, nodesL_append, nodesL_rep]
            have := ho.2.2
            omega
          · unfold vansFault
            simp only
            split
            · exact rowFault_bad ho.1
            · simp
        · have : N = 0 := by omega
          subst this
          simp [show found.length ≤ 16777216 by omega]
          exact ⟨jB', AllFine.nil⟩
      · rintro f B' ⟨jB', es, s4, s5, s6, rfl, g1, g2, g3⟩
        refine ⟨jB', found ++ es, s4, s5, s6, rfl, h1.append g1, fun d hd => ?_, by simp [h3], by simp; omega⟩
        rcases List.mem_append.mp hd with hd | hd
        · exact h2 d hd
        · exact g2 d hd
    · rintro ρ B ⟨jB, found, s4, s5, s6, rfl, h1, h2, h3, h4⟩
      simp at h4
      simp
      refine (one_W jB h3 (by omega)).use ?_
      rintro r B' ⟨jB', d, hd, rfl⟩
      simp [uw d B' (h1 d hd).1, bad d (h2 d hd)]
      exact ⟨jB', d, ⟨rfl, rfl⟩, h1 d hd, h2 d hd⟩
  have f1 : AllFine [PyData.none, .list (List.replicate N (.int 0)), .tuple (List.replicate (N + 1) (.int 0)), .int 0, .str "vans"] ∧ ∀ d ∈ [PyData.none, .list (List.replicate N (.int 0)), .tuple (List.replicate (N + 1) (.int 0)), .int 0, .str "vans"], vansFault N d ≠ .none := by
    refine ⟨.cons (fine_c rfl) <| .cons ⟨?_, ?_⟩ <| .cons ⟨?_, ?_⟩ <| .cons (fine_c rfl) <| .cons (fine_c rfl) .nil, ?_⟩
    · simp only [PyData.plain, plainAll_rep (d := .int 0) rfl]
    · simp [nodes, nodesL_rep]; omega
    · simp only [PyData.plain, plainAll_rep (d := .int 0) rfl]
    · simp [nodes, nodesL_rep]; omega
    · simp [vansFault]
  have f2 : AllFine [PyData.tuple (List.replicate (N - 1) (.int 0))] ∧ (0 < N → ∀ d ∈ [PyData.tuple (List.replicate (N - 1) (.int 0))], vansFault N d ≠ .none) := by
    refine ⟨.cons ⟨?_, ?_⟩ .nil, fun h => ?_⟩
    · simp only [PyData.plain, plainAll_rep (d := .int 0) rfl]
    · simp [nodes, nodesL_rep]; omega
    · have : ¬ N - 1 = N := by omega
      simp [vansFault, this]
  have nn : ((N : Int) + 1).toNat = N + 1 := by omega
  have w1 : -1000 ≤ (N : Int) ∧ (N : Int) ≤ 1000 := by omega
  have w2 : -1000 ≤ (N : Int) + 1 ∧ (N : Int) + 1 ≤ 1000 := by omega
  have w3 : -1000 ≤ (N : Int) - 1 ∧ (N : Int) - 1 ≤ 1000 := by omega
  have n1 : ((N : Int) - 1).toNat = N - 1 := by omega
  have sl : slots0 F__law_uw_odd_vans [bref 0, dLand L] = [.vl (bref 0), .vl (dLand L), .un, .un, .un, .un, .un] := rfl
  rw [sl]
  unfold F__law_uw_odd_vans
  rw [W_outR]
  have s1 : ∀ C : Cl, ex C (.set false 2 (.bi .len (.cons (.idx (.v 1) (.k (.int 0))) .nil))) [.vl (bref 0), .vl (dLand L), .un, .un, .un, .un, .un] B = .ok (.nx [.vl (bref 0), .vl (dLand L), .vl (.int N), .un, .un, .un, .un]) B := fun C => W.eq (by simp [dl, hN])
  refine W_seq_nx (s1 _) ?_
  by_cases h0 : 0 < N
  · refine W_seq_nx (ρ1 := [.vl (bref 0), .vl (dLand L), .vl (.int N), .ow ([PyData.none, .list (List.replicate N (.int 0)), .tuple (List.replicate (N + 1) (.int 0)), .int 0, .str "vans"] ++ [.tuple (List.replicate (N - 1) (.int 0))]), .un, .un, .un]) (B1 := B) (W.eq (by simp [w1, w2, w3, h0, nn, n1, hB.nl])) ?_
    refine (start _ (f1.1.append f2.1) (fun d hd => ?_) (by simp) (by simp)).use ?_
    · rcases List.mem_append.mp hd with hd | hd
      · exact f1.2 d hd
      · exact f2.2 h0 d hd
    · rintro f B' ⟨jB', d, rfl, h1, h2⟩
      exact ⟨jB', d, rfl, h1, h2⟩
  · refine W_seq_nx (ρ1 := [.vl (bref 0), .vl (dLand L), .vl (.int N), .ow [PyData.none, .list (List.replicate N (.int 0)), .tuple (List.replicate (N + 1) (.int 0)), .int 0, .str "vans"], .un, .un, .un]) (B1 := B) (W.eq (by simp [w1, w2, h0, nn, hB.nl])) ?_
    refine (start _ f1.1 f1.2 (by simp) (by simp)).use ?_
    rintro f B' ⟨jB', d, rfl, h1, h2⟩
    exact ⟨jB', d, rfl, h1, h2⟩
end K05
end
section
set_option linter.all false
set_option maxRecDepth 100000
namespace K05
open PySem PySem.W Pv
/-! V5: places, moves, the first limit that is broken -/
def mvI (vs : List Int) (u v : Int) : List Int := (vs.set u.toNat (vs.getD u.toNat 0 - 1)).set v.toNat ((vs.set u.toNat (vs.getD u.toNat 0 - 1)).getD v.toNat 0 + 1)
theorem mvI_self {vs : List Int} {u : Int} (h : u.toNat < vs.length) : mvI vs u u = vs := by
  unfold mvI
  simp [List.getD, h]
theorem one_moved_ok {n : Nat} {vs : List Int} {u v : Int} {B : Bx} (hB : nlB B = true) (u1 : 0 ≤ u) (u2 : u < vs.length) (v1 : 0 ≤ v) (v2 : v < vs.length) : callF G (n + 1) i_one_moved [.tuple (vs.map .int), .int u, .int v] B = .ok (.tuple ((mvI vs u v).map .int), false) B := by
  have hu : u.toNat < vs.length := by omega
  have hv : v.toNat < vs.length := by omega
  have e1 := at_vans (vs := vs) u1 u2
  have e2 := at_vans (vs := vs.set u.toNat (vs.getD u.toNat 0 - 1)) (p := v) v1 (by rw [List.length_set]; exact v2)
  rw [List.map_set] at e2
  rw [call_eq (fd := F_one_moved) rfl rfl]
  refine W.eq ?_
  simp [List.getD, hu, hv] at e1 e2
  simp [F_one_moved, slots0, hB, e1, hu, u1, u2, e2, v1, v2, hv, mvI, List.map_set]
theorem uw_moved_ok {n : Nat} {vs : List Int} {u v : Int} {B : Bx} (hB : nlB B = true) (u1 : 0 ≤ u) (u2 : u < vs.length) (v1 : 0 ≤ v) (v2 : v < vs.length) : callF G (n + 1) i__law_uw_moved [.tuple (vs.map .int), .int u, .int v] B = .ok (.tuple ((mvI vs u v).map .int), false) B := by
  have hu : u.toNat < vs.length := by omega
  have hv : v.toNat < vs.length := by omega
  have e1 := at_vans (vs := vs) u1 u2
  have e2 := at_vans (vs := vs.set u.toNat (vs.getD u.toNat 0 - 1)) (p := v) v1 (by rw [List.length_set]; exact v2)
  rw [List.map_set] at e2
  rw [call_eq (fd := F__law_uw_moved) rfl rfl]
  refine W.eq ?_
  simp [List.getD, hu, hv] at e1 e2
  simp [F__law_uw_moved, slots0, hB, e1, hu, u1, u2, e2, v1, v2, hv, mvI, List.map_set]
theorem asked_place_ok {n : Nat} {L : Land} {d : D} {B : Bx} (h : d.plain = true) (hw : wholeP d 0 ((L.ps.length : Int) - 1) = true) : callF G (n + 2) i_asked_place [dLand L, d] B = .ok (.none, false) B := by
  rw [call_eq (fd := F_asked_place) rfl rfl, dLand_eq]
  exact W.eq (by simp [F_asked_place, slots0, whole_ok (nd_plain h), hw])
theorem asked_place_x {n : Nat} {L : Land} {d : D} {B : Bx} (h : d.plain = true) (hw : wholeP d 0 ((L.ps.length : Int) - 1) = false) : callF G (n + 2) i_asked_place [dLand L, d] B = .ex e_BadPlace d B := by
  rw [call_eq (fd := F_asked_place) rfl rfl, dLand_eq]
  exact W.eqx (by simp [F_asked_place, slots0, whole_ok (nd_plain h), hw])
theorem odd_place_W {n : Nat} {L : Land} {B : Bx} {X : Nat → D → Bx → Prop} (hB : JarOk B) (hL : LandOk L) : W (callF G (n + 3) i__law_uw_odd_place [bref 0, dLand L] B)
    (fun r B' => JarOk B' ∧ ∃ d : D, r = (.tuple [d, .tuple [.str "BadPlace", d]], false) ∧ Fine d ∧ wholeP d 0 ((L.ps.length : Int) - 1) = false) X := by
  have hm := hL.many
  rw [call_eq (fd := F__law_uw_odd_place) rfl rfl, dLand_eq]
  simp [F__law_uw_odd_place, slots0]
  refine (one_W hB (by simp) (by simp)).use ?_
  rintro r B' ⟨jB, d, hd, rfl⟩
  simp
  refine ⟨jB, ?_⟩
  simp at hd
  rcases hd with rfl | rfl | rfl | rfl | rfl | rfl | rfl <;> exact ⟨⟨rfl, by simp [nodes, nodesL]⟩, by simp [wholeP] <;> omega⟩
def firstIn (g : D → Int) : List D → Option D
  | [] => none
  | d :: ds => if g d < 0 then some d else firstIn g ds
def firstD (L : Land) (vs : List Int) : D := (firstIn (spareI L vs) (limitsD L)).getD .none
theorem firstIn_filter {g : D → Int} : ∀ {l : List D}, firstIn g l = (l.filter fun d => decide (g d < 0)).head?
  | [] => rfl
  | a :: l => by
    rw [firstIn, List.filter_cons]
    by_cases h : g a < 0
    · simp [h]
    · simp only [h, decide_false, Bool.false_eq_true, if_false]; exact firstIn_filter
theorem zipL_map {f : D → D} : ∀ {ds : List D}, zipL ds (ds.map f) = ds.map fun d => .tuple [d, f d]
  | [] => rfl
  | d :: ds => by rw [List.map_cons, zipL, zipL_map, List.map_cons]
theorem below_walk {n : Nat} {g : D → Int} {x0 x1 : Sl} {B : Bx} : ∀ {ds : List D} {s3 s4 : Sl},
    W (forL (turn (callF G n) (.tp (.cons (.n 3) (.cons (.n 4) .nil))) L_first_below_0) (ds.map fun d => .tuple [d, .int (g d)]) [x0, x1, .vl (.int 0), s3, s4] B)
      (fun f B' => B' = B ∧ (firstIn g ds = none → ∃ ρ, f = .nx ρ) ∧ ∀ d, firstIn g ds = some d → f = .rt d false) NoX
  | [], s3, s4 => by simp [forL, firstIn]
  | d :: ds, s3, s4 => by
    have ih := fun s3 s4 => below_walk (n := n) (g := g) (x0 := x0) (x1 := x1) (B := B) (ds := ds) (s3 := s3) (s4 := s4)
    rw [List.map_cons, forL, W_bind]
    by_cases h : g d < 0
    · simp [turn, L_first_below_0, h, firstIn]
    · simp only [firstIn, h, if_false]
      simp [turn, L_first_below_0, h]
      exact ih _ _
theorem broken_ok {n : Nat} {L : Land} {vs : List Int} {B : Bx} (hB : nlB B = true) (hL : LandOk L) (hr : L.rs.length ≤ 40) (hv : VansOk L.ps.length vs) : callF G (n + 7) i_broken [dLand L, .tuple (vs.map .int)] B = .ok (firstD L vs, false) B := by
  have hm := hL.many
  have hp : (PyData.tuple (vs.map .int)).plain = true := by simp [PyData.plain]
  have fb : callF G (n + 6) i_first_below [.list (limitsD L), .list (sparesD L vs), .int 0] B = .ok (firstD L vs, false) B := by
    rw [call_eq (fd := F_first_below) rfl rfl]
    refine W.eq ?_
    simp [F_first_below, slots0]
    unfold sparesD
    rw [zipL_map]
    refine (below_walk (g := spareI L vs)).use ?_
    rintro f B' ⟨rfl, h1, h2⟩
    unfold firstD
    cases hf : firstIn (spareI L vs) (limitsD L) with
    | none => obtain ⟨ρ, rfl⟩ := h1 hf; simp
    | some d => rw [h2 d hf]; simp
  rw [call_eq (fd := F_broken) rfl rfl]
  refine W.eq ?_
  simp [F_broken, slots0, asked_standing_ok hB hL hr hp (vansFault_ok hv), limits_in_ok hB (show L.ps.length ≤ 1000 by omega) (show L.rs.length ≤ 1000 by omega), spares_now_ok hL hv.1, fb]
theorem broken_v {n : Nat} {L : Land} {v : D} {B : Bx} (hB : nlB B = true) (hL : LandOk L) (hr : L.rs.length ≤ 40) (h : v.plain = true) (hf : vansFault L.ps.length v ≠ .none) : callF G (n + 7) i_broken [dLand L, v] B = .ex e_BadVans (vansFault L.ps.length v) B := by
  rw [call_eq (fd := F_broken) rfl rfl]
  exact W.eqx (by simp [F_broken, slots0, asked_standing_v hB hL hr h hf])
theorem uw_broken_ok {n : Nat} {L : Land} {vs : List Int} {B : Bx} (hL : LandOk L) (hr : L.rs.length ≤ 40) (hv : vs.length = L.ps.length) : callF G (n + 3) i__law_uw_broken [dLand L, .tuple (vs.map .int)] B = .ok (firstD L vs, false) B := by
  have hm := hL.many
  rw [call_eq (fd := F__law_uw_broken) rfl rfl]
  refine W.eq ?_
  simp [F__law_uw_broken, slots0, uw_limits_ok (show L.ps.length ≤ 1000 by omega) (show L.rs.length ≤ 1000 by omega)]
  refine W_lcfD (fun d => decide (spareI L vs d < 0)) (fun d hd => W.eq ?_) ?_
  · obtain ⟨s, i, rfl, hl⟩ := limitsD_mem hd
    simp [m_lcF, uw_spare_ok hL hv hl]
    by_cases h : spareI L vs (.tuple [.str s, .int i]) < 0 <;> simp [h]
  · have hpl : PyData.plainAll ((limitsD L).filter fun d => decide (spareI L vs d < 0)) = true := by
      rw [plainAll_iff]; intro x hx; exact plainAll_iff.mp limitsD_plain x (List.mem_filter.mp hx).1
    unfold firstD
    rw [firstIn_filter]
    cases hf : (limitsD L).filter (fun d => decide (spareI L vs d < 0)) with
    | nil => simp
    | cons d ds =>
      rw [hf] at hpl
      simp [eqD_nilL hpl]
theorem moved_ok {n : Nat} {L : Land} {vs : List Int} {u v : Int} {B : Bx} (hB : nlB B = true) (hL : LandOk L) (hr : L.rs.length ≤ 40) (hv : VansOk L.ps.length vs) (u1 : 0 ≤ u) (u2 : u < L.ps.length) (v1 : 0 ≤ v) (v2 : v < L.ps.length) (h0 : vs.getD u.toNat 0 ≠ 0) :
    callF G (n + 6) i_moved [dLand L, .tuple (vs.map .int), .int u, .int v] B = .ok (.tuple ((mvI vs u v).map .int), false) B := by
  have hp : (PyData.tuple (vs.map .int)).plain = true := by simp [PyData.plain]
  have hvl := hv.1
  have e1 := at_vans (vs := vs) u1 (by omega)
  rw [call_eq (fd := F_moved) rfl rfl]
  refine W.eq ?_
  simp only [List.getD_eq_getElem?_getD] at e1 h0
  simp [F_moved, slots0, asked_ok hB plain_dLand (dLand_fine hL hr).node hL.fault, asked_vans_ok hp (vansFault_ok hv), asked_place_ok (L := L) (d := .int u) rfl (by simp; omega), asked_place_ok (L := L) (d := .int v) rfl (by simp; omega), e1, h0, one_moved_ok hB u1 (by omega : u < vs.length) v1 (by omega : v < vs.length)]
theorem moved_nv {n : Nat} {L : Land} {vs : List Int} {u v : Int} {B : Bx} (hB : nlB B = true) (hL : LandOk L) (hr : L.rs.length ≤ 40) (hv : VansOk L.ps.length vs) (u1 : 0 ≤ u) (u2 : u < L.ps.length) (v1 : 0 ≤ v) (v2 : v < L.ps.length) (h0 : vs.getD u.toNat 0 = 0) :
    callF G (n + 6) i_moved [dLand L, .tuple (vs.map .int), .int u, .int v] B = .ex e_NoVan (.int u) B := by
  have hp : (PyData.tuple (vs.map .int)).plain = true := by simp [PyData.plain]
  have hvl := hv.1
  have e1 := at_vans (vs := vs) u1 (by omega)
  rw [h0] at e1
  rw [call_eq (fd := F_moved) rfl rfl]
  refine W.eqx ?_
  simp [F_moved, slots0, asked_ok hB plain_dLand (dLand_fine hL hr).node hL.fault, asked_vans_ok hp (vansFault_ok hv), asked_place_ok (L := L) (d := .int u) rfl (by simp; omega), asked_place_ok (L := L) (d := .int v) rfl (by simp; omega), e1]
theorem moved_v {n : Nat} {L : Land} {v e f : D} {B : Bx} (hB : nlB B = true) (hL : LandOk L) (hr : L.rs.length ≤ 40) (h : v.plain = true) (hf : vansFault L.ps.length v ≠ .none) : callF G (n + 6) i_moved [dLand L, v, e, f] B = .ex e_BadVans (vansFault L.ps.length v) B := by
  rw [call_eq (fd := F_moved) rfl rfl]
  exact W.eqx (by simp [F_moved, slots0, asked_ok hB plain_dLand (dLand_fine hL hr).node hL.fault, asked_vans_x h hf])
theorem moved_u {n : Nat} {L : Land} {vs : List Int} {d e : D} {B : Bx} (hB : nlB B = true) (hL : LandOk L) (hr : L.rs.length ≤ 40) (hv : VansOk L.ps.length vs) (h : d.plain = true) (hw : wholeP d 0 ((L.ps.length : Int) - 1) = false) : callF G (n + 6) i_moved [dLand L, .tuple (vs.map .int), d, e] B = .ex e_BadPlace d B := by
  have hp : (PyData.tuple (vs.map .int)).plain = true := by simp [PyData.plain]
  rw [call_eq (fd := F_moved) rfl rfl]
  exact W.eqx (by simp [F_moved, slots0, asked_ok hB plain_dLand (dLand_fine hL hr).node hL.fault, asked_vans_ok hp (vansFault_ok hv), asked_place_x h hw])
theorem moved_w {n : Nat} {L : Land} {vs : List Int} {d : D} {u : Int} {B : Bx} (hB : nlB B = true) (hL : LandOk L) (hr : L.rs.length ≤ 40) (hv : VansOk L.ps.length vs) (u1 : 0 ≤ u) (u2 : u < L.ps.length) (h : d.plain = true) (hw : wholeP d 0 ((L.ps.length : Int) - 1) = false) : callF G (n + 6) i_moved [dLand L, .tuple (vs.map .int), .int u, d] B = .ex e_BadPlace d B := by
  have hp : (PyData.tuple (vs.map .int)).plain = true := by simp [PyData.plain]
  rw [call_eq (fd := F_moved) rfl rfl]
  exact W.eqx (by simp [F_moved, slots0, asked_ok hB plain_dLand (dLand_fine hL hr).node hL.fault, asked_vans_ok hp (vansFault_ok hv), asked_place_ok (L := L) (d := .int u) rfl (by simp; omega), asked_place_x h hw])
end K05
end
section
set_option linter.all false
set_option maxRecDepth 100000
namespace Pv
open PySem PySem.W
theorem rngX_5 : rngX [.int 5] = some ((List.range 5).map fun (i : Nat) => .int (i : Int)) := rngX_nat (b := 5) (by decide)
theorem rngX_0 : rngX [.int 0] = some ((List.range 0).map fun (i : Nat) => .int (i : Int)) := rngX_nat (b := 0) (by decide)
theorem AllFine.plain {xs : List D} (h : AllFine xs) : PyData.plainAll xs = true := plainAll_iff.mpr fun x hx => (h x hx).1
theorem AllFine.nodes {xs : List D} (h : AllFine xs) : nodesL xs ≤ xs.length * 20000 := nodesL_le fun x hx => (h x hx).2
end Pv
namespace K05
open PySem PySem.W Pv
theorem heard_novan : heardOf heard0 e_NoVan = Str.ofString "NoVan" := by decide +kernel
theorem heard_vans : heardOf heard0 e_BadVans = Str.ofString "BadVans" := by decide +kernel
theorem heard_place : heardOf heard0 e_BadPlace = Str.ofString "BadPlace" := by decide +kernel
def movD (vs : List Int) (u v : Int) : D := if vs.getD u.toNat 0 = 0 then .tuple [.str "NoVan", .int u] else .tuple [.str "told", .tuple ((mvI vs u v).map .int)]
theorem mvI_len {vs : List Int} {u v : Int} : (mvI vs u v).length = vs.length := by unfold mvI; simp
theorem movD_fine {vs : List Int} {u v : Int} (h : vs.length ≤ 40) : Fine (movD vs u v) := by
  unfold movD
  split
  · exact ⟨rfl, by simp [nodes, nodesL]⟩
  · refine ⟨by simp [PyData.plain, PyData.plainAll], ?_⟩
    simp only [nodes, nodesL, nodesL_ints, mvI_len]
    omega
theorem moved_due_ok {n : Nat} {vs : List Int} {u v : Int} {B : Bx} (hB : nlB B = true) (hp : ∀ w ∈ vs, 0 ≤ w ∧ w ≤ 10000000) (u1 : 0 ≤ u) (u2 : u < vs.length) (v1 : 0 ≤ v) (v2 : v < vs.length) : callF G (n + 2) i__law_u5_moved_due [.tuple (vs.map .int), .int u, .int v] B = .ok (movD vs u v, false) B := by
  have hu : u.toNat < vs.length := by omega
  have e1 := at_vans (vs := vs) u1 u2
  have hw := hp (vs[u.toNat]) (List.getElem_mem hu)
  have e0 : vs.getD u.toNat 0 = vs[u.toNat] := by simp [List.getD, hu]
  rw [e0] at e1
  rw [call_eq (fd := F__law_u5_moved_due) rfl rfl]
  refine W.eq ?_
  unfold movD
  rw [e0]
  by_cases h : vs[u.toNat] = 0
  · rw [h] at e1
    simp [F__law_u5_moved_due, slots0, e1, h]
  · have h1 : ¬ vs[u.toNat] < 1 := by omega
    have h2 : 1 ≤ vs[u.toNat] := by omega
    by_cases huv : u = v
    · subst huv
      simp [F__law_u5_moved_due, slots0, e1, h, h1, h2, mvI_self hu]
    · simp [F__law_u5_moved_due, slots0, e1, h, h1, h2, huv, uw_moved_ok hB u1 u2 v1 v2]
theorem told_moved {n : Nat} {L : Land} {vs : List Int} {u v : Int} {B : Bx} (hB : nlB B = true) (hL : LandOk L) (hr : L.rs.length ≤ 40) (hv : VansOk L.ps.length vs) (u1 : 0 ≤ u) (u2 : u < L.ps.length) (v1 : 0 ≤ v) (v2 : v < L.ps.length) : hrd heard0 (callF G (n + 6) i_moved [dLand L, .tuple (vs.map .int), .int u, .int v] B) = .ok (movD vs u v, false) B := by
  unfold movD
  by_cases h : vs.getD u.toNat 0 = 0
  · rw [moved_nv hB hL hr hv u1 u2 v1 v2 h, hrd_ex, heard_novan, if_pos h]
  · rw [moved_ok hB hL hr hv u1 u2 v1 v2 h, hrd_ok, if_neg h]
theorem firstD_fine {L : Land} {vs : List Int} : Fine (firstD L vs) := by
  unfold firstD
  cases h : firstIn (spareI L vs) (limitsD L) with
  | none => exact ⟨rfl, by decide⟩
  | some d =>
    rw [firstIn_filter] at h
    obtain ⟨s, i, rfl, _⟩ := limitsD_mem (List.mem_filter.mp (List.mem_of_mem_head? h)).1
    exact ⟨rfl, by simp [nodes, nodesL]⟩
theorem u5_right_W {n : Nat} {L : Land} {B : Bx} {X : Nat → D → Bx → Prop} (hB : JarOk B) (hL : LandOk L) (hr : L.rs.length ≤ 40) : W (callF G (n + 8) i__law_u5_right [bref 0, dLand L] B) (fun r B' => JarOk B' ∧ r = (.bool true, false)) X := by
  have hm := hL.many
  have dl : ∀ B : Bx, idxD B (dLand L) (.int 0) = some (.tuple (L.ps.map dPl)) := fun B => by simp [dLand]
  rw [call_eq (fd := F__law_u5_right) rfl rfl]
  simp [F__law_u5_right, slots0, dl]
  refine (vans_W hB hL).use ?_
  rintro r B1 ⟨jB1, vs, rfl, hv⟩
  have hvl := hv.1
  simp [broken_ok jB1.nl hL hr hv, uw_broken_ok hL hr hv.1, jB1.nl]
  have main : ∀ k, k ≤ 5 → (0 < k → 0 < L.ps.length) → W (forL (turn (callF G (n + 7)) (.n 6) L__law_u5_right_0) ((List.range k).map fun (i : Nat) => .int (i : Int)) [.vl (bref 0), .vl (dLand L), .vl (.int L.ps.length), .vl (.tuple (vs.map .int)), .ow [.tuple [.str "told", firstD L vs]], .ow [.tuple [.str "told", firstD L vs]], .un, .un, .un] B1)
      (fun f B' => JarOk B' ∧ ∃ (xs : List D) (x6 x7 x8 : Sl), f = .nx [.vl (bref 0), .vl (dLand L), .vl (.int L.ps.length), .vl (.tuple (vs.map .int)), .ow xs, .ow xs, x6, x7, x8] ∧ AllFine xs ∧ xs.length ≤ 10) NoX := by
    intro k hk hk0
    refine W_forR (fun k ρ B => JarOk B ∧ ∃ (xs : List D) (x6 x7 x8 : Sl), ρ = [.vl (bref 0), .vl (dLand L), .vl (.int L.ps.length), .vl (.tuple (vs.map .int)), .ow xs, .ow xs, x6, x7, x8] ∧ AllFine xs ∧ xs.length ≤ k + 1) ⟨jB1, _, _, _, _, rfl, .cons ⟨?_, ?_⟩ .nil, by simp⟩ ?_ ?_
    · have := (firstD_fine (L := L) (vs := vs)).1
      simp [PyData.plain, PyData.plainAll, this]
    · have := (firstD_fine (L := L) (vs := vs)).2
      have h2 : nodes (firstD L vs) ≤ 4 := by
        unfold firstD
        cases h : firstIn (spareI L vs) (limitsD L) with
        | none => simp [nodes]
        | some d =>
          rw [firstIn_filter] at h
          obtain ⟨s, i, rfl, _⟩ := limitsD_mem (List.mem_filter.mp (List.mem_of_mem_head? h)).1
          simp [nodes, nodesL]
      simp only [nodes, nodesL]
      omega
    · rintro j hj ρ B ⟨jB, xs, x6, x7, x8, rfl, h1, h2⟩
      have hN := hk0 (by omega)
      refine W.use (Q' := fun f B' => JarOk B' ∧ ∃ (u v : Int) (x6 x7 x8 : Sl), f = .nx [.vl (bref 0), .vl (dLand L), .vl (.int L.ps.length), .vl (.tuple (vs.map .int)), .ow (xs ++ [movD vs u v]), .ow (xs ++ [movD vs u v]), x6, x7, x8]) ?_ ?_
      · simp [turn, L__law_u5_right_0]
        refine (take_W jB (by omega) (by omega)).use ?_
        rintro r B2 ⟨jB2, u, rfl, u1, u2⟩
        simp
        refine (take_W jB2 (by omega) (by omega)).use ?_
        rintro r B3 ⟨jB3, v, rfl, v1, v2⟩
        have md := moved_due_ok (n := n + 5) (B := B3) jB3.nl hv.2 u1 (by omega : u < vs.length) v1 (by omega : v < vs.length)
        have hx : xs.length < 16777216 := by omega
        have key : ∀ d : D, movD vs u v = d → JarOk B3 ∧ ∃ u v x6 x7 x8, Fl.nx [Sl.vl (bref 0), .vl (dLand L), .vl (.int L.ps.length), .vl (.tuple (vs.map .int)), .ow (xs ++ [d]), .ow (xs ++ [d]), .vl (.int j), .vl (.int u), .vl (.int v)] = .nx [.vl (bref 0), .vl (dLand L), .vl (.int L.ps.length), .vl (.tuple (vs.map .int)), .ow (xs ++ [movD vs u v]), .ow (xs ++ [movD vs u v]), x6, x7, x8] := fun d e => ⟨jB3, u, v, _, _, _, by rw [e]⟩
        by_cases h : vs.getD u.toNat 0 = 0
        · have mv := moved_nv (n := n + 1) jB3.nl hL hr hv u1 u2 v1 v2 h
          have e : movD vs u v = .tuple [.str "NoVan", .int u] := if_pos h
          have k := key _ e
          rw [e] at md
          simp at k ⊢
          simp [mv, md, heard_novan, hx]
          exact k
        · have mv := moved_ok (n := n + 1) jB3.nl hL hr hv u1 u2 v1 v2 h
          have e : movD vs u v = .tuple [.str "told", .tuple ((mvI vs u v).map .int)] := if_neg h
          have k := key _ e
          rw [e] at md
          simp at k ⊢
          simp [mv, md, hx]
          exact k
      · rintro f B' ⟨jB', u, v, x6, x7, x8, rfl⟩
        exact ⟨jB', xs ++ [movD vs u v], x6, x7, x8, rfl, h1.append (.cons (movD_fine (by omega)) .nil), by simp; omega⟩
    · rintro ρ B ⟨jB, xs, x6, x7, x8, rfl, h1, h2⟩
      exact ⟨jB, xs, x6, x7, x8, rfl, h1, by omega⟩
  have fin : ∀ (xs : List D) (B : Bx), JarOk B → AllFine xs → xs.length ≤ 10 → callF G (n + 7) i__law_uq_same [.list xs, .list xs] B = .ok (.bool true, false) B := fun xs B jB h1 h2 =>
    same_ok (n := n + 5) (x := .list xs) jB.nl (by simp only [PyData.plain, h1.plain]) (by have := h1.nodes; simp only [nodes]; omega)
  by_cases h0 : 0 < L.ps.length
  · simp [h0, rngX_5]
    refine (main 5 (by omega) (fun _ => h0)).use ?_
    rintro f B' ⟨jB', xs, x6, x7, x8, rfl, h1, h2⟩
    simp [fin xs B' jB' h1 h2]
    exact jB'
  · have h0F : (0 < L.ps.length) = False := by simpa using h0
    simp [h0F, rngX_0]
    have m0 := main 0 (by omega) (by omega)
    simp only [List.range_zero, List.map_nil] at m0
    refine W.use m0 ?_
    rintro f B' ⟨jB', xs, x6, x7, x8, rfl, h1, h2⟩
    simp [fin xs B' jB' h1 h2]
    exact jB'
theorem small_fault {d : D} (h : d = .none ∨ ∃ i : Int, d = .int i) : d.plain = true ∧ nodes d ≤ 20000 := by
  rcases h with rfl | ⟨i, rfl⟩
  · exact ⟨rfl, by decide⟩
  · exact ⟨rfl, by simp [nodes]⟩
/-- what is told of a refused call -/
def Told (call : Nat → Bx → Out R) (due : D) : Prop := ∃ c w, (∀ n B, nlB B = true → call n B = .ex c w B) ∧ due = .tuple [.str (heardOf heard0 c), w] ∧ w.plain = true ∧ nodes w ≤ 20000
theorem told_land {ol : D} (fol : Fine ol) (hol : landFault ol ≠ .none) : ∃ c w, landFault ol = .tuple [.str (heardOf heard0 c), w] ∧ (w.plain = true ∧ nodes w ≤ 20000) ∧ (∀ n B e, nlB B = true → callF G (n + 7) i_broken [ol, e] B = .ex c w B) ∧ ∀ n B e f g, nlB B = true → callF G (n + 6) i_moved [ol, e, f, g] B = .ex c w B := by
  obtain ⟨c, w, h1, h2⟩ := asked_x fol.1 fol.node hol
  have hw : w.plain = true ∧ nodes w ≤ 20000 := by
    have := fault_fine ol
    rw [h2] at this
    simp [PyData.plain, PyData.plainAll, nodes, nodesL] at this
    exact ⟨this.1, by omega⟩
  have st : ∀ n B e, nlB B = true → callF G (n + 6) i_asked_standing [ol, e] B = .ex c w B := fun n B e hB => by
    rw [call_eq (fd := F_asked_standing) rfl rfl]
    exact W.eqx (by simp [F_asked_standing, slots0, h1 _ _ hB])
  refine ⟨c, w, h2, hw, fun n B e hB => ?_, fun n B e f g hB => ?_⟩
  · rw [call_eq (fd := F_broken) rfl rfl]
    exact W.eqx (by simp [F_broken, slots0, st _ _ _ hB])
  · rw [call_eq (fd := F_moved) rfl rfl]
    exact W.eqx (by simp [F_moved, slots0, h1 _ _ hB])
def vansRow (ov : D) (N : Nat) : D × D := (ov, .tuple [.str "BadVans", vansFault N ov])
/-- land and vans, one of them wrong -/
theorem row2 {L : Land} {vs : List Int} {ol ov : D} (hL : LandOk L) (hr : L.rs.length ≤ 40) (fol : Fine ol) (hol : landFault ol ≠ .none) (fov : Fine ov) (hov : vansFault L.ps.length ov ≠ .none) {at' : Nat} {rest : List D} (h : at' < 2) (hrl : rest.length = 2 - (at' + 1)) :
    ∃ x y c w, [dLand L, .tuple (vs.map .int)].take at' ++ ([(ol, landFault ol), vansRow ov L.ps.length].getD at' (.none, .none)).1 :: rest = [x, y] ∧ ([(ol, landFault ol), vansRow ov L.ps.length].getD at' (.none, .none)).2 = .tuple [.str (heardOf heard0 c), w] ∧ (w.plain = true ∧ nodes w ≤ 20000) ∧ (∀ n B, nlB B = true → callF G (n + 7) i_broken [x, y] B = .ex c w B) ∧ ∀ n B f g, nlB B = true → callF G (n + 6) i_moved [x, y, f, g] B = .ex c w B := by
  match at', h, rest, hrl with
  | 0, _, [b], _ =>
    obtain ⟨c, w, h1, h2, h3, h4⟩ := told_land fol hol
    exact ⟨_, _, c, w, rfl, h1, h2, fun n B hB => h3 n B b hB, fun n B f g hB => h4 n B b f g hB⟩
  | 1, _, [], _ =>
    exact ⟨_, _, e_BadVans, vansFault L.ps.length ov, rfl, by rw [heard_vans]; rfl, small_fault vansFault_cases, fun n B hB => broken_v hB hL hr fov.1 hov, fun n B f g hB => moved_v hB hL hr fov.1 hov⟩
theorem refused_right_W {n : Nat} {L : Land} {B : Bx} {X : Nat → D → Bx → Prop} (hB : JarOk B) (hL : LandOk L) (hr : L.rs.length ≤ 40) : W (callF G (n + 8) i__law_u5_refused_right [bref 0, dLand L] B) (fun r B' => JarOk B' ∧ r = (.bool true, false)) X := by
  have hm := hL.many
  have dl : ∀ B : Bx, idxD B (dLand L) (.int 0) = some (.tuple (L.ps.map dPl)) := fun B => by simp [dLand]
  have pe : eqD (.tuple (L.ps.map dPl)) (.tuple []) = some (L.ps.map dPl).isEmpty := eqD_nilT (plainAll_map' fun _ _ => plain_dPl)
  rw [call_eq (fd := F__law_u5_refused_right) rfl rfl]
  simp [F__law_u5_refused_right, slots0]
  refine (vans_W hB hL).use ?_
  rintro r B1 ⟨jB1, vs, rfl, hv⟩
  simp
  refine (odd_land_W jB1 hL hr).use ?_
  rintro r B2 ⟨jB2, ol, rfl, fol, hol⟩
  simp
  refine (odd_vans_W jB2 hL).use ?_
  rintro r B3 ⟨jB3, ov, rfl, fov, hov⟩
  simp
  refine W.use (arguments_W (n := n + 4) (right := [dLand L, .tuple (vs.map .int)]) (odds := [(ol, landFault ol), vansRow ov L.ps.length]) jB3 (by simp) (by simp) rfl) ?_
  rintro r B4 ⟨jB4, at', rest, hat, rfl, hrl, _⟩
  obtain ⟨x, y, c, w, e1, e2, hw, hbr, hmv⟩ := row2 hL hr fol hol fov hov hat hrl
  rw [e1, e2]
  simp [hbr _ _ jB4.nl, jB4.nl]
  refine (odd_place_W jB4 hL).use ?_
  rintro r B5 ⟨jB5, ud, rfl, fu, hu⟩
  simp
  refine (odd_place_W jB5 hL).use ?_
  rintro r B6 ⟨jB6, vd, rfl, fv, hvd⟩
  simp
  refine (one_W jB6 (by simp) (by simp)).use ?_
  rintro r B7 ⟨jB7, z, hz, rfl⟩
  have mu := moved_u (n := n + 1) (e := z) jB7.nl hL hr hv fu.1 hu
  have f1 := fu.2
  have f2 := fv.2
  have s1 := same_ok (n := n + 5) (x := .list [.tuple [.str (heardOf heard0 c), w], .tuple [.str "BadPlace", ud], .tuple [.str (heardOf heard0 c), w]]) jB7.nl (by simp only [PyData.plain, PyData.plainAll, hw.1, fu.1, Bool.and_self]) (by have := hw.2; simp only [nodes, nodesL]; omega)
  have s2 := same_ok (n := n + 5) (x := .list [.tuple [.str (heardOf heard0 c), w], .tuple [.str "BadPlace", ud], .tuple [.str "BadPlace", vd], .tuple [.str (heardOf heard0 c), w]]) jB7.nl (by simp only [PyData.plain, PyData.plainAll, hw.1, fu.1, fv.1, Bool.and_self]) (by have := hw.2; simp only [nodes, nodesL]; omega)
  have mx := hmv (n + 1) B7 ud (.int 0) jB7.nl
  cases hemp : (L.ps.map dPl).isEmpty with
  | true =>
    simp [mu, heard_place, dl, pe, hemp, mx, s1, -List.isEmpty_map]
    exact jB7
  | false =>
    have hN : 0 < L.ps.length := by
      cases h : L.ps with
      | nil => rw [h] at hemp; cases hemp
      | cons _ _ => simp
    have hz0 : VansOk L.ps.length (List.replicate L.ps.length 0) := ⟨by simp, fun v hv => by rw [List.eq_of_mem_replicate hv]; omega⟩
    have mw := moved_w (n := n + 1) (u := 0) (d := vd) jB7.nl hL hr hz0 (by omega) (by omega) fv.1 hvd
    rw [List.map_replicate] at mw
    have w1 : -1000 ≤ (L.ps.length : Int) ∧ (L.ps.length : Int) ≤ 1000 := by omega
    simp [mu, heard_place, dl, pe, hemp, mx, mw, w1, s2, -List.isEmpty_map]
    exact jB7
end K05
end
section
set_option linter.all false
set_option maxRecDepth 100000
namespace K05
open PySem PySem.W Pv
def depot : Land := ⟨[(1, 4), (1, -1), (0, -1)], [([1, 2], 3)]⟩
theorem depot_ok : LandOk depot := ⟨by decide, by simp [depot, PlOk], ⟨by simp [depot, RgForm, Rise], by decide, trivial⟩⟩
theorem vans_c {n : Nat} {vs : List Int} (h : (decide (vs.length = n) && vs.all fun v => decide (0 ≤ v) && decide (v ≤ 10000000)) = true) : VansOk n vs := by
  simp only [Bool.and_eq_true, decide_eq_true_eq, List.all_eq_true] at h
  exact h
theorem f1 : firstD depot [2, 3, 1] = .none := by simp [firstD, firstIn, limitsD, lim, depot, roomAt, spareI, sumIn, lotI, floorAt, List.range_succ]
theorem f2 : firstD depot [5, 0, 1] = .tuple [.str "floor", .int 1] := by simp [firstD, firstIn, limitsD, lim, depot, roomAt, spareI, sumIn, lotI, floorAt, List.range_succ]
theorem f3 : firstD depot [5, 1, 2] = .tuple [.str "room", .int 0] := by simp [firstD, firstIn, limitsD, lim, depot, roomAt, spareI, sumIn, lotI, floorAt, List.range_succ]
theorem f4 : firstD depot [1, 1, 1] = .tuple [.str "region", .int 0] := by simp [firstD, firstIn, limitsD, lim, depot, roomAt, spareI, sumIn, lotI, floorAt, List.range_succ]
theorem f5 : firstD depot [0, 0, 0] = .tuple [.str "floor", .int 0] := by simp [firstD, firstIn, limitsD, lim, depot, roomAt, spareI, sumIn, lotI, floorAt, List.range_succ]
theorem f6 : firstD depot [0, 9, 9] = .tuple [.str "floor", .int 0] := by simp [firstD, firstIn, limitsD, lim, depot, roomAt, spareI, sumIn, lotI, floorAt, List.range_succ]
theorem law_W {n : Nat} (ns : List Int) (hl : ns.length ≤ 63) : W (callF G (n + 9) i_law [.list (ns.map .int)] []) (fun r _ => r = (.bool true, false)) NoX := by
  rw [call_eq (fd := F_law) rfl rfl]
  simp [F_law, slots0]
  refine (pool_W ns (by omega)).use ?_
  rintro r B ⟨rfl, jB⟩
  simp [rngX_16]
  refine W_forR (fun k ρ B => JarOk B ∧ ∃ x0 x2 x7, ρ = [x0, .vl (bref 0), x2, .un, .un, .un, .un, x7, .un]) ⟨jB, _, _, _, rfl⟩ ?_ ?_
  · rintro k hk ρ B ⟨jB, x0, x2, x7, rfl⟩
    simp [turn, L_law_0]
    refine (land_W jB).use ?_
    rintro r B1 ⟨jB1, L, rfl, hL, hr⟩
    simp
    refine (u5_right_W jB1 hL hr).use ?_
    rintro r B2 ⟨jB2, rfl⟩
    simp
    refine (refused_right_W jB2 hL hr).use ?_
    rintro r B3 ⟨jB3, rfl⟩
    simp [jB3]
  · rintro ρ B ⟨jB, x0, x2, x7, rfl⟩
    have v1 : VansOk depot.ps.length [2, 3, 1] := vans_c (by decide)
    have v2 : VansOk depot.ps.length [5, 0, 1] := vans_c (by decide)
    have v3 : VansOk depot.ps.length [5, 1, 2] := vans_c (by decide)
    have v4 : VansOk depot.ps.length [1, 1, 1] := vans_c (by decide)
    have v5 : VansOk depot.ps.length [0, 0, 0] := vans_c (by decide)
    have v6 : VansOk depot.ps.length [0, 9, 9] := vans_c (by decide)
    have v7 : VansOk depot.ps.length [1, 10000000, 0] := vans_c (by decide)
    have v8 : VansOk depot.ps.length [1, 0, 0] := vans_c (by decide)
    have c1 := broken_ok (n := n + 1) jB.nl depot_ok (by decide) v1
    have c2 := broken_ok (n := n + 1) jB.nl depot_ok (by decide) v2
    have c3 := broken_ok (n := n + 1) jB.nl depot_ok (by decide) v3
    have c4 := broken_ok (n := n + 1) jB.nl depot_ok (by decide) v4
    have c5 := broken_ok (n := n + 1) jB.nl depot_ok (by decide) v5
    have c6 := broken_ok (n := n + 1) jB.nl depot_ok (by decide) v6
    have c7 := moved_ok (n := n + 2) (u := 0) (v := 1) jB.nl depot_ok (by decide) v7 (by decide) (by decide) (by decide) (by decide) (by decide)
    have c8 := moved_nv (n := n + 2) (u := 1) (v := 1) jB.nl depot_ok (by decide) v8 (by decide) (by decide) (by decide) (by decide) (by decide)
    rw [f1] at c1
    rw [f2] at c2
    rw [f3] at c3
    rw [f4] at c4
    rw [f5] at c5
    rw [f6] at c6
    rw [show mvI [1, 10000000, 0] 0 1 = [0, 10000001, 0] from by decide] at c7
    simp at c1 c2 c3 c4 c5 c6 c7 c8
    have ed : PyData.tuple [.tuple [.tuple [.int 1, .int 4], .tuple [.int 1, .int (-1)], .tuple [.int 0, .int (-1)]], .tuple [.tuple [.tuple [.int 1, .int 2], .int 3]]] = dLand depot := rfl
    have lcs : ∀ s : Sl, lcL (m_lcF (callF G (n + 8)) (.n 8) [8] (.call i_broken (.cons (.v 3) (.cons (.v 8) .nil))) (.k (.bool true)) [x0, .vl (bref 0), x2, .vl (dLand depot), .vl (.list [.tuple [.int 2, .int 3, .int 1], .tuple [.int 5, .int 0, .int 1], .tuple [.int 5, .int 1, .int 2], .tuple [.int 1, .int 1, .int 1], .tuple [.int 0, .int 0, .int 0], .tuple [.int 0, .int 9, .int 9]]), .un, .un, x7, s]) [.tuple [.int 2, .int 3, .int 1], .tuple [.int 5, .int 0, .int 1], .tuple [.int 5, .int 1, .int 2], .tuple [.int 1, .int 1, .int 1], .tuple [.int 0, .int 0, .int 0], .tuple [.int 0, .int 9, .int 9]] B =
      .ok [.none, .tuple [.str "floor", .int 1], .tuple [.str "room", .int 0], .tuple [.str "region", .int 0], .tuple [.str "floor", .int 0], .tuple [.str "floor", .int 0]] B := fun s => by
      refine W.eq ?_
      simp only [lcL, W_bind]
      simp [m_lcF, c1, c2, c3, c4, c5, c6]
    have sm := same_ok (n := n + 6) (B := B) (x := .list [.tuple [.str "told", .list [.none, .tuple [.str "floor", .int 1], .tuple [.str "room", .int 0], .tuple [.str "region", .int 0], .tuple [.str "floor", .int 0], .tuple [.str "floor", .int 0]]], .tuple [.str "told", .tuple [.int 0, .int 10000001, .int 0]], .tuple [.str "NoVan", .int 1]]) jB.nl rfl (by decide +kernel)
    simp [ed, lcs, c7, c8, jB.nl, heard_novan, sm]
theorem law_holds : ∀ ns : List Int, ns.length ≤ 63 → ∃ fr B', Pv.callF G (19 + 1) i_law [.list (ns.map .int)] [] = .ok (.bool true, fr) B' := fun ns hl => by
  obtain ⟨r, B, e, rfl⟩ := (law_W (n := 11) ns hl).ex
  exact ⟨false, B, e⟩
end K05
end
section
set_option linter.all false
set_option maxRecDepth 100000
theorem K05.plainT : ∀ ns : List Int, ns.length ≤ 63 → (∀ z ∈ ns, PySem.Builtin.Int.intBits z ≤ 1048576) → ∃ fr B', Pv.callF K05.txt.G (19 + 1) 54 [.list (ns.map .int)] [] = .ok (.bool true, fr) B' := fun ns h _ => K05.law_holds ns h
end
set_option linter.all false
set_option maxRecDepth 100000
set_option maxHeartbeats 0
open PySem PySem.W PySem.Calls PyProof.Rows in
theorem PySem.Challenge.cw_neverunder_k05_broken_limits_and_moves_holds : PySem.Challenge.rw_neverunder_k05_broken_limits_and_moves.Holds := by
  w_on; o_law
  refine HandSHeadRun.head_any (r := OpenLaw.row PySem.Challenge.rw_neverunder_k05_broken_limits_and_moves) (q := view (OpenLaw.row PySem.Challenge.rw_neverunder_k05_broken_limits_and_moves).prog [73]) (H := K05.hk) (ob := K05.ob) (M := 4000) (loose := K05.loose) (d := HandSHeadRun.topDef (OpenLaw.row PySem.Challenge.rw_neverunder_k05_broken_limits_and_moves).prog 73) (kwd := []) K05.ob_eq
    (by kernel_rfl) (fun s => by kernel_rfl) K05.run (by kernel_rfl) (by kernel_rfl) (by kernel_rfl) (by rfl) (by first | assumption | decide +kernel) (by decide +kernel) ⟨rfl, rfl, rfl, rfl, rfl, by decide +kernel⟩ ?hw ?hc
  case hw => w_witness2
  case hc =>
    refine LamX.walk_ofTsE (l := PySem.Challenge.rw_neverunder_k05_broken_limits_and_moves) (n := 63) (k := 84) (x := "script") (CX := fun w => L2N.CX (PySem.Challenge.rw_neverunder_k05_broken_limits_and_moves).prog w) rfl (by decide) (by kernel_rfl) ⟨rfl, by decide, by decide⟩ ?F ?cx
    case cx =>
      intro w H s e s' z
      obtain ⟨_, _, _, _, _, _, _, _, _, _, _, _, z⟩ := z
      exact z
    case F =>
      intro w mg fa h Y G hmg0
      obtain ⟨K, KX, c⟩ := Y
      have hmg : mg ("law" : PySem.Str) = some (.ref fa) := by
        have e : (HandSHeadRun.topDef (OpenLaw.row PySem.Challenge.rw_neverunder_k05_broken_limits_and_moves).prog 73).name = ("law" : PySem.Str) := by kernel_rfl
        rw [← e]
        exact hmg0
      exact ⟨K, KX, Pv.law_at (R := "Refused") (a := "self") (b := "what") (ini := K05.ini) (t := K05.txt) (i := 54) (F := 19) (r := K05.r_law) KX G c K05.chk_ok K05.more_ok rfl rfl hmg (by decide) K05.plainT⟩


import PyProof.Rows.All
import Wide.All
import OpenK.AllK
import Wide.FinOn
import HandS.ForMost
import HandS.Deep
import HandS.AnyAll
import HandS.Walk
import HandS.TupAny
import HandS.IsInst
import HandS.Flow
import HandS.Style
import HandS.Iter
import HandS.Zip
import KE.GoesMore
import KE.GoesEnum
import HandS.GenOver
import HandS.GenYield
import PyProof.ConsumeS
import PyProof.CollectWalk
import HandS.GenList
import PyProof.TupleOfGen
import HandS.SortRule
import HandS.SortInts
import PyProof.SumAny
import HandS.Base
import HandS.Comp
import Lean
import KE.KStateDown
import KE.KNestM
import HandS.EndTab
import HandS.HeadWalk
import HandS.Words
import HandS.Defaults
import HandS.Head0
import HandS.Head1
import HandS.Head2
import HandS.HeadHook1
import HandS.HeadHook2
import PySem.Challenge.RW_latticehouse_k84_brackets_are_a_lattice
section
set_option Elab.async false
set_option linter.all false
set_option maxRecDepth 100000
/-! The D-level: what the programs compute, over trees of data. -/
namespace LH
open PySem

abbrev D := PyData
/-- what a slot holds: a value; a list of the frame's own; the list that the def was handed to change; a dict of the frame's own -/
inductive SV where
  | val (d : D) | own (xs : List D) | io (xs : List D) | dc (kvs : List (D × D))
abbrev Env := List (Option SV)
/-- a result: a value; a new list; a new dict; what a slot holds -/
inductive R where
  | val (d : D) | tmp (xs : List D) | tdc (kvs : List (D × D)) | slot (i : Nat)
abbrev ME := Env → Option (R × Env)
abbrev MT := Env → Option (Bool × Env)
abbrev MI := Env → Option (List D × Env)
abbrev MG := D → Env → Option Env
structure Fn where
  io : Bool
  sem : List D → Option (R × List D)

def LIM : Nat := 16777216
def get (ρ : Env) (i : Nat) : Option SV := (ρ[i]?).join
def look : R → Env → Option D
  | .val d, _ => some d
  | .tmp xs, _ => some (.list xs)
  | .tdc _, _ => none
  | .slot i, ρ => match get ρ i with
    | some (.val d) => some d
    | some (.own xs) => some (.list xs)
    | some (.io xs) => some (.list xs)
    | _ => none
/-- what is there, a dict too -/
inductive OV where
  | d (d : D) | dc (kvs : List (D × D))
def lookO (r : R) (ρ : Env) : Option OV := match r with
  | .slot i => match get ρ i with
    | some (.dc kvs) => some (.dc kvs)
    | _ => (look (.slot i) ρ).map .d
  | r => (look r ρ).map .d
def share : R → Env → Option (D × Env)
  | .val d, ρ => some (d, ρ)
  | .tmp xs, ρ => some (.list xs, ρ)
  | .tdc _, _ => none
  | .slot i, ρ => match get ρ i with
    | some (.val d) => some (d, ρ)
    | some (.own xs) => some (.list xs, ρ.set i (some (.val (.list xs))))
    | _ => none

/-! expressions -/
def dVal (d : D) : ME := fun ρ => some (.val d, ρ)
def dVar (i : Nat) : ME := fun ρ => match get ρ i with
  | some (.val d) => some (.val d, ρ)
  | some _ => some (.slot i, ρ)
  | none => none
def dArgs : List ME → Env → Option (List R × Env)
  | [], ρ => some ([], ρ)
  | e :: es, ρ => match e ρ with
    | none => none
    | some (r, ρ1) => match dArgs es ρ1 with
      | none => none
      | some (rs, ρ2) => some (r :: rs, ρ2)
def looks : List R → Env → Option (List D)
  | [], _ => some []
  | r :: rs, ρ => match look r ρ, looks rs ρ with
    | some d, some ds => some (d :: ds)
    | _, _ => none
def shares : List R → Env → Option (List D × Env)
  | [], ρ => some ([], ρ)
  | r :: rs, ρ => match share r ρ with
    | none => none
    | some (d, ρ1) => match shares rs ρ1 with
      | none => none
      | some (ds, ρ2) => some (d :: ds, ρ2)
def dTup (es : List ME) : ME := fun ρ => match dArgs es ρ with
  | none => none
  | some (rs, ρ1) => match shares rs ρ1 with
    | none => none
    | some (ds, ρ2) => if ds.length ≤ LIM then some (.val (.tuple ds), ρ2) else none
def dLst (es : List ME) : ME := fun ρ => match dArgs es ρ with
  | none => none
  | some (rs, ρ1) => match shares rs ρ1 with
    | none => none
    | some (ds, ρ2) => if ds.length ≤ LIM then some (.tmp ds, ρ2) else none
/-- one operand, two operands, by what they hold -/
def dOp1 (f : D → Option R) (a : ME) : ME := fun ρ => match a ρ with
  | none => none
  | some (ra, ρ1) => match look ra ρ1 with
    | none => none
    | some x => match f x with
      | none => none
      | some r => some (r, ρ1)
def dOp2 (f : D → D → Option R) (a b : ME) : ME := fun ρ => match a ρ with
  | none => none
  | some (ra, ρ1) => match b ρ1 with
    | none => none
    | some (rb, ρ2) => match look ra ρ2, look rb ρ2 with
      | some x, some y => match f x y with
        | none => none
        | some r => some (r, ρ2)
      | _, _ => none
def fAdd : D → D → Option R
  | .int i, .int j => some (.val (.int (i + j)))
  | .str x, .str y => if x.length + y.length ≤ LIM then some (.val (.str (x ++ y))) else none
  | .tuple xs, .tuple ys => if xs.length + ys.length ≤ LIM then some (.val (.tuple (xs ++ ys))) else none
  | .list xs, .list ys => if xs.length + ys.length ≤ LIM then some (.tmp (xs ++ ys)) else none
  | _, _ => none
def fSub : D → D → Option R
  | .int i, .int j => some (.val (.int (i - j)))
  | _, _ => none
def smallI (i : Int) : Bool := decide (-18446744073709551616 < i) && decide (i < 18446744073709551616)
def reps (xs : List D) (k : Int) : List D := (List.replicate k.toNat xs).flatten
def fMul : D → D → Option R
  | .int i, .int j => if smallI i || smallI j then some (.val (.int (i * j))) else none
  | .list xs, .int k => if smallI k && decide (k < 9223372036854775808) && decide (-9223372036854775808 ≤ k) && decide (xs.length * k.toNat ≤ LIM) then some (.tmp (reps xs k)) else none
  | _, _ => none
def fDiv : D → D → Option R
  | .int i, .int j => if 0 < j ∧ j < 1073741824 then some (.val (.int (i / j))) else none
  | _, _ => none
def fMod : D → D → Option R
  | .int i, .int j => if 0 < j then some (.val (.int (i % j))) else none
  | _, _ => none
def fPow : D → D → Option R
  | .int i, .int j => if 0 ≤ j ∧ j ≤ 1000000 ∧ i.natAbs < 18446744073709551616 then some (.val (.int (i ^ j.toNat))) else none
  | _, _ => none
def fAugAdd : D → D → Option R
  | .int i, .int j => some (.val (.int (i + j)))
  | _, _ => none
def fAugMul : D → D → Option R
  | .int i, .int j => if smallI i || smallI j then some (.val (.int (i * j))) else none
  | _, _ => none
def fNeg : D → Option R
  | .int i => some (.val (.int (-i)))
  | _ => none
def truD : D → Option Bool
  | .none => some false
  | .bool b => some b
  | .int i => some (i != 0)
  | .str x => if x.length ≤ LIM then some ((x.length : Int) != 0) else none
  | .list xs => some (!xs.isEmpty)
  | .tuple xs => some (!xs.isEmpty)
  | .dict _ => none
/-! data that are compared by < -/
mutual
def ordOk : D → D → Bool
  | .int _, .int _ => true
  | .tuple xs, .tuple ys => ordOkL xs ys
  | _, _ => false
def ordOkL : List D → List D → Bool
  | x :: xs, y :: ys => ordOk x y && ordOkL xs ys
  | _, _ => true
end
mutual
def ltv : D → D → Bool
  | .int a, .int b => decide (a < b)
  | .tuple xs, .tuple ys => ltvL xs ys
  | _, _ => false
def ltvL : List D → List D → Bool
  | [], [] => false
  | [], _ :: _ => true
  | _ :: _, [] => false
  | x :: xs, y :: ys => if PyData.eqv x y then ltvL xs ys else ltv x y
end
def shp (d : D) : Bool := SeqAt.shaped d
inductive CO where
  | eq | ne | lt | le | gt | ge | isin | notin
def fCmp : CO → D → D → Option Bool
  | .eq, x, y => if shp x && shp y then some (PyData.eqv x y) else none
  | .ne, x, y => if shp x && shp y then some (!PyData.eqv x y) else none
  | .lt, .int i, .int j => some (decide (i < j))
  | .le, .int i, .int j => some (decide (i ≤ j))
  | .gt, .int i, .int j => some (decide (j < i))
  | .ge, .int i, .int j => some (decide (j ≤ i))
  | .isin, x, .list ys => if shp x && shp (.list ys) then some (ys.any fun z => PyData.eqv z x) else none
  | .notin, x, .list ys => if shp x && shp (.list ys) then some (!ys.any fun z => PyData.eqv z x) else none
  | .isin, x, .tuple ys => if shp x && shp (.tuple ys) then some (ys.any fun z => PyData.eqv z x) else none
  | .notin, x, .tuple ys => if shp x && shp (.tuple ys) then some (!ys.any fun z => PyData.eqv z x) else none
  | _, _, _ => none
def rB (b : Option Bool) : Option R := b.map fun b => .val (.bool b)
def dCmp (o : CO) (a b : ME) : ME := dOp2 (fun x y => rB (fCmp o x y)) a b
/-- a op b op' c -/
def dChain (o o' : CO) (a b c : ME) : ME := fun ρ => match a ρ with
  | none => none
  | some (ra, ρ1) => match b ρ1 with
    | none => none
    | some (rb, ρ2) => match look ra ρ2, look rb ρ2 with
      | some x, some y => match fCmp o x y with
        | none => none
        | some false => some (.val (.bool false), ρ2)
        | some true => match c ρ2 with
          | none => none
          | some (rc, ρ3) => match look rb ρ3, look rc ρ3 with
            | some y', some z => match fCmp o' y' z with
              | none => none
              | some k => some (.val (.bool k), ρ3)
            | _, _ => none
      | _, _ => none
def tBool (a : ME) : MT := fun ρ => match a ρ with
  | some (.val (.bool k), ρ1) => some (k, ρ1)
  | _ => none
def tTru (a : ME) : MT := fun ρ => match a ρ with
  | none => none
  | some (r, ρ1) => match look r ρ1 with
    | none => none
    | some d => match truD d with
      | none => none
      | some k => some (k, ρ1)
def tNot (a : MT) : MT := fun ρ => match a ρ with
  | none => none
  | some (k, ρ1) => some (!k, ρ1)
def tAnd (a b : MT) : MT := fun ρ => match a ρ with
  | none => none
  | some (false, ρ1) => some (false, ρ1)
  | some (true, ρ1) => b ρ1
def tOr (a b : MT) : MT := fun ρ => match a ρ with
  | none => none
  | some (true, ρ1) => some (true, ρ1)
  | some (false, ρ1) => b ρ1
def dNot (a : ME) : ME := fun ρ => match tTru a ρ with
  | none => none
  | some (k, ρ1) => some (.val (.bool (!k)), ρ1)
/-- a and b, a or b as values -/
def dAnd (a b : ME) : ME := fun ρ => match a ρ with
  | none => none
  | some (r, ρ1) => match look r ρ1 with
    | none => none
    | some d => match truD d with
      | none => none
      | some false => some (r, ρ1)
      | some true => b ρ1
def dOr (a b : ME) : ME := fun ρ => match a ρ with
  | none => none
  | some (r, ρ1) => match look r ρ1 with
    | none => none
    | some d => match truD d with
      | none => none
      | some true => some (r, ρ1)
      | some false => b ρ1
def dIf (c : MT) (a b : ME) : ME := fun ρ => match c ρ with
  | none => none
  | some (true, ρ1) => a ρ1
  | some (false, ρ1) => b ρ1
def isNoneD : D → Bool
  | .none => true
  | _ => false
def dOpO (f : OV → D → Option R) (a b : ME) : ME := fun ρ => match a ρ with
  | none => none
  | some (ra, ρ1) => match b ρ1 with
    | none => none
    | some (rb, ρ2) => match lookO ra ρ2, look rb ρ2 with
      | some x, some y => match f x y with
        | none => none
        | some r => some (r, ρ2)
      | _, _ => none
def fIsN (neg : Bool) (x : D) : Option R := some (.val (.bool (if neg then !isNoneD x else isNoneD x)))
def fIsB (neg b : Bool) : D → Option R
  | .bool a => some (.val (.bool (if neg then !decide (a = b) else decide (a = b))))
  | _ => none
def ixAt (xs : List D) (i : Int) : Option D := L2.atI xs i
def fIx : D → D → Option R
  | .list xs, .int i => (ixAt xs i).map .val
  | .tuple xs, .int i => (ixAt xs i).map .val
  | .str z, .int i => if z.length ≤ LIM then (L2.atI z.cps.toList i).map fun c => .val (.str ⟨#[c]⟩) else none
  | _, _ => none
def cutD (xs : List D) (lo hi : Option Int) : List D := (xs.drop (HT.sIx xs.length 0 lo)).take (HT.sIx xs.length xs.length hi - HT.sIx xs.length 0 lo)
def fCut (lo hi : Option Int) : D → Option R
  | .list xs => some (.tmp (cutD xs lo hi))
  | .tuple xs => some (.val (.tuple (cutD xs lo hi)))
  | _ => none
def dPart (e : Option ME) : Env → Option (Option Int × Env) := fun ρ => match e with
  | none => some (none, ρ)
  | some e => match e ρ with
    | some (.val (.int i), ρ1) => some (some i, ρ1)
    | _ => none
def dCut (a : ME) (lo hi : Option ME) : ME := fun ρ => match a ρ with
  | none => none
  | some (r, ρ1) => match dPart lo ρ1 with
    | none => none
    | some (l, ρ2) => match dPart hi ρ2 with
      | none => none
      | some (h, ρ3) => match look r ρ3 with
        | none => none
        | some x => match fCut l h x with
          | none => none
          | some r => some (r, ρ3)
def fRev : D → Option R
  | .list xs => some (.tmp xs.reverse)
  | .tuple xs => some (.val (.tuple xs.reverse))
  | _ => none

/-! calls -/
mutual
def noLst : D → Bool
  | .list _ => false
  | .tuple xs => noLstL xs
  | .dict _ => false
  | _ => true
def noLstL : List D → Bool
  | [] => true
  | x :: xs => noLst x && noLstL xs
end
def R.clean : R → Bool
  | .val d => noLst d
  | .tmp xs => noLstL xs
  | _ => false
def R.isSlot : R → Bool
  | .slot _ => true
  | _ => false
def dCall (f : List D → Option (R × List D)) (es : List ME) : ME := fun ρ => match dArgs es ρ with
  | none => none
  | some (rs, ρ1) => match shares rs ρ1 with
    | none => none
    | some (ds, ρ2) => match f ds with
      | none => none
      | some (.slot _, _) => none
      | some (r, _) => some (r, if r.clean then ρ1 else ρ2)
/-- a call whose first argument is a list of the caller's that the callee changes -/
def dCallIO (f : List D → Option (R × List D)) (i : Nat) (es : List ME) : ME := fun ρ => if (get ρ i).isSome then match dArgs es ρ with
  | none => none
  | some (rs, ρ1) => match shares rs ρ1 with
    | none => none
    | some (ds, ρ2) => match get ρ2 i with
      | some (.own xs) => match f (.list xs :: ds) with
        | none => none
        | some (.slot _, _) => none
        | some (r, ys) => some (r, ρ2.set i (some (.own ys)))
      | some (.io xs) => match f (.list xs :: ds) with
        | none => none
        | some (.slot _, _) => none
        | some (r, ys) => some (r, ρ2.set i (some (.io ys)))
      | _ => none
  else none

/-! built-ins -/
def fLen : D → Option R
  | .list xs => some (.val (.int xs.length))
  | .tuple xs => some (.val (.int xs.length))
  | .str z => if z.length ≤ LIM then some (.val (.int z.length)) else none
  | _ => none
def fInt : D → Option R
  | .int i => some (.val (.int i))
  | .bool k => some (.val (.int (if k then 1 else 0)))
  | _ => none
def fAbs : D → Option R
  | .int i => some (.val (.int (if i < 0 then -i else i)))
  | _ => none
def fMin2 : D → D → Option R
  | .int i, .int j => some (.val (.int (if j < i then j else i)))
  | _, _ => none
def fMax2 : D → D → Option R
  | .int i, .int j => some (.val (.int (if j > i then j else i)))
  | _, _ => none
inductive Ty where
  | int | bool | str | tuple | list
def fIsI : Ty → D → Option R
  | .int, .int _ => some (.val (.bool true))
  | .int, .bool _ => some (.val (.bool true))
  | .bool, .bool _ => some (.val (.bool true))
  | .str, .str _ => some (.val (.bool true))
  | .tuple, .tuple _ => some (.val (.bool true))
  | .list, .list _ => some (.val (.bool true))
  | _, .dict _ => none
  | _, _ => some (.val (.bool false))

/-! what is walked -/
def itemsOf : D → Option (List D)
  | .list xs => some xs
  | .tuple xs => some xs
  | _ => none
def mSeq (a : ME) : MI := fun ρ => match a ρ with
  | none => none
  | some (r, ρ1) => match share r ρ1 with
    | none => none
    | some (d, ρ2) => match itemsOf d with
      | none => none
      | some xs => some (xs, ρ2)
def small62 (i : Int) : Bool := decide (-4611686018427387904 ≤ i) && decide (i < 4611686018427387904)
def rngL (a b : Int) : List D := (List.range (b - a).toNat).map fun (k : Nat) => .int (a + (k : Int))
def mRng1 (a : ME) : MI := fun ρ => match dArgs [a] ρ with
  | some ([.val (.int j)], ρ1) => if small62 j then some (rngL 0 j, ρ1) else none
  | _ => none
def mRng2 (a b : ME) : MI := fun ρ => match dArgs [a, b] ρ with
  | some ([.val (.int i), .val (.int j)], ρ1) => if small62 i && small62 j then some (rngL i j, ρ1) else none
  | _ => none
/-- range(a, b, -1) -/
def mRngD (a b c : ME) : MI := fun ρ => match dArgs [a, b, c] ρ with
  | some ([.val (.int i), .val (.int j), .val (.int (-1))], ρ1) => if small62 i && small62 j then some ((List.range (i - j).toNat).map fun (k : Nat) => .int (i + (k : Int) * (-1)), ρ1) else none
  | _ => none
def enumL (xs : List D) : List D := (List.range xs.length).zipWith (fun (k : Nat) x => .tuple [.int (k : Int), x]) xs
def mEnum (a : ME) : MI := fun ρ => match dArgs [a] ρ with
  | none => none
  | some (rs, ρ1) => match shares rs ρ1 with
    | some ([.list xs], ρ2) => some (enumL xs, ρ2)
    | some ([.tuple xs], ρ2) => some (enumL xs, ρ2)
    | _ => none
def zipL (xs ys : List D) : List D := List.zipWith (fun x y => .tuple [x, y]) xs ys
def mZip (a b : ME) : MI := fun ρ => match dArgs [a, b] ρ with
  | none => none
  | some (rs, ρ1) => match shares rs ρ1 with
    | some ([.list xs, .list ys], ρ2) => some (zipL xs ys, ρ2)
    | some ([.tuple xs, .tuple ys], ρ2) => some (zipL xs ys, ρ2)
    | _ => none
def mItems (i : Nat) : MI := fun ρ => match get ρ i with
  | some (.dc kvs) => some (kvs.map fun p => .tuple [p.1, p.2], ρ)
  | _ => none

/-! targets -/
def canSet : Option SV → Bool
  | some (.io _) => false
  | _ => true
def gName (i : Nat) : MG := fun d ρ => if i < ρ.length ∧ canSet (get ρ i) then some (ρ.set i (some (.val d))) else none
def gEach : List MG → List D → Env → Option Env
  | [], [], ρ => some ρ
  | g :: gs, d :: ds, ρ => match g d ρ with
    | none => none
    | some ρ1 => gEach gs ds ρ1
  | _, _, _ => none
def gTup (gs : List MG) : MG := fun d ρ => match d with
  | .tuple xs => gEach gs xs ρ
  | _ => none

/-! comprehensions -/
structure Cl where
  ts : List Nat
  g : MG
  it : MI
  ifs : MT
def walk (body : D → Env → Option (List D × Env)) : List D → Env → Option (List D × Env)
  | [], ρ => some ([], ρ)
  | x :: xs, ρ => match body x ρ with
    | none => none
    | some (ys, ρ1) => match walk body xs ρ1 with
      | none => none
      | some (zs, ρ2) => some (ys ++ zs, ρ2)
def wipeE (ρ : Env) : List Nat → Env
  | [] => ρ
  | i :: is => (wipeE ρ is).set i none
def turn (ts : List Nat) (g : MG) (ifs : MT) (rest : Env → Option (List D × Env)) : D → Env → Option (List D × Env) := fun x ρ => match g x (wipeE ρ ts) with
  | none => none
  | some ρ1 => match ifs ρ1 with
    | none => none
    | some (false, ρ2) => some ([], ρ2)
    | some (true, ρ2) => rest ρ2
def clauses (emit : Env → Option (List D × Env)) : List Cl → Env → Option (List D × Env)
  | [], ρ => emit ρ
  | c :: cs, ρ => match c.it ρ with
    | none => none
    | some (xs, ρ1) => walk (turn c.ts c.g c.ifs (clauses emit cs)) xs ρ1
/-- the block's own slots as they were, but for lists of the frame's own -/
def keepV : Option SV → Option SV
  | some (.val d) => some (.val d)
  | _ => none
def back (ρ ρ' : Env) : List Nat → Env
  | [] => ρ'
  | i :: is => (back ρ ρ' is).set i (keepV (get ρ i))
def emit1 (elt : ME) : Env → Option (List D × Env) := fun ρ => match elt ρ with
  | none => none
  | some (r, ρ1) => match share r ρ1 with
    | none => none
    | some (d, ρ2) => some ([d], ρ2)
def comp (own : List Nat) (emit : Env → Option (List D × Env)) (it : MI) (g : MG) (ifs : MT) (cs : List Cl) : Env → Option (List D × Env) := fun ρ => match it ρ with
  | none => none
  | some (xs, ρ1) => match walk (turn own g ifs (clauses emit cs)) xs (wipeE ρ1 own) with
    | none => none
    | some (ys, ρ2) => if ys.length ≤ LIM then some (ys, back ρ1 ρ2 own) else none
def dComp (own : List Nat) (elt : ME) (it : MI) (g : MG) (ifs : MT) (cs : List Cl) : ME := fun ρ => match comp own (emit1 elt) it g ifs cs ρ with
  | none => none
  | some (ys, ρ1) => some (.tmp ys, ρ1)
/-! generator expressions, taken at once: what is handed out, whether the taker stopped -/
inductive GK where
  | all | any | col
def stops (k : GK) (d : D) : Option Bool := match k with
  | .col => some false
  | .any => truD d
  | .all => (truD d).map (!·)
abbrev MW := Env → Option (List D × Bool × Env)
def emitS (k : GK) (elt : ME) : MW := fun ρ => match elt ρ with
  | none => none
  | some (r, ρ1) => match share r ρ1 with
    | none => none
    | some (d, ρ2) => match stops k d with
      | none => none
      | some st => some ([d], st, ρ2)
def walkS (body : D → MW) : List D → MW
  | [], ρ => some ([], false, ρ)
  | x :: xs, ρ => match body x ρ with
    | none => none
    | some (ys, true, ρ1) => some (ys, true, ρ1)
    | some (ys, false, ρ1) => match walkS body xs ρ1 with
      | none => none
      | some (zs, st, ρ2) => some (ys ++ zs, st, ρ2)
def turnS (ts : List Nat) (g : MG) (ifs : MT) (rest : MW) : D → MW := fun x ρ => match g x (wipeE ρ ts) with
  | none => none
  | some ρ1 => match ifs ρ1 with
    | none => none
    | some (false, ρ2) => some ([], false, ρ2)
    | some (true, ρ2) => rest ρ2
def clausesS (emit : MW) : List Cl → MW
  | [], ρ => emit ρ
  | c :: cs, ρ => match c.it ρ with
    | none => none
    | some (xs, ρ1) => walkS (turnS c.ts c.g c.ifs (clausesS emit cs)) xs ρ1
def dGen (k : GK) (own : List Nat) (elt : ME) (it : MI) (g : MG) (ifs : MT) (cs : List Cl) : MW := fun ρ => match it ρ with
  | none => none
  | some (xs, ρ1) => match walkS (turnS own g ifs (clausesS (emitS k elt) cs)) xs (wipeE ρ1 own) with
    | none => none
    | some (ys, st, ρ2) => some (ys, st, back ρ1 ρ2 own)
def dAnyG (gen : MW) : ME := fun ρ => match gen ρ with
  | none => none
  | some (_, st, ρ1) => some (.val (.bool st), ρ1)
def dAllG (gen : MW) : ME := fun ρ => match gen ρ with
  | none => none
  | some (_, st, ρ1) => some (.val (.bool (!st)), ρ1)
def dEatG (f : List D → Option R) (gen : MW) : ME := fun ρ => match gen ρ with
  | none => none
  | some (ys, _, ρ1) => if ys.length ≤ LIM then match f ys with
      | none => none
      | some r => some (r, ρ1)
    else none

/-! what takes a walked thing -/
def allD : List D → Option Bool
  | [] => some true
  | x :: xs => match truD x with
    | none => none
    | some false => some false
    | some true => allD xs
def anyD : List D → Option Bool
  | [] => some false
  | x :: xs => match truD x with
    | none => none
    | some true => some true
    | some false => anyD xs
def intsOf : List D → Option (List Int)
  | [] => some []
  | .int i :: xs => (intsOf xs).map (i :: ·)
  | _ :: _ => none
def sumD (xs : List D) : Option R := (intsOf xs).map fun ns => .val (.int ns.sum)
def ordAll : List D → Bool
  | [] => true
  | x :: xs => xs.all (fun y => ordOk x y && ordOk y x) && ordAll xs
def okOrd (xs : List D) : Bool := shp (.tuple xs) && ordAll xs
def best (lt : D → D → Bool) : D → List D → D
  | m, [] => m
  | m, x :: xs => best lt (if lt x m then x else m) xs
def minD (dflt : Option D) : List D → Option R
  | [] => dflt.map .val
  | x :: xs => if okOrd (x :: xs) then some (.val (best ltv x xs)) else none
def maxD (dflt : Option D) : List D → Option R
  | [] => dflt.map .val
  | x :: xs => if okOrd (x :: xs) then some (.val (best (fun a b => ltv b a) x xs)) else none
def insD (lt : D → D → Bool) (x : D) : List D → List D
  | [] => [x]
  | y :: ys => if lt x y then x :: y :: ys else y :: insD lt x ys
/-- stable: what comes first stays first -/
def sortD (lt : D → D → Bool) : List D → List D
  | [] => []
  | x :: xs => insL x (sortD lt xs)
where insL (x : D) : List D → List D
  | [] => [x]
  | y :: ys => if lt y x then y :: insL x ys else x :: y :: ys
def dedup : List D → List D
  | [] => []
  | x :: xs => if xs.any (fun y => PyData.eqv x y) then dedup xs else x :: dedup xs
inductive CK where
  | sum | tuple | list | sorted | sortedSet | lenSet | maxD (i : Int) | minN | min | max
  deriving DecidableEq
def isIntD : D → Bool
  | .int _ => true
  | _ => false
def isPairD : D → Bool
  | .tuple [.int _, .int _] => true
  | _ => false
/-- ints, or pairs of ints -/
def sortable (xs : List D) : Bool := xs.all isIntD || xs.all isPairD
def fEat : CK → List D → Option R
  | .sum, xs => sumD xs
  | .tuple, xs => some (.val (.tuple xs))
  | .list, xs => some (.tmp xs)
  | .sorted, xs => if sortable xs then some (.tmp (sortD ltv xs)) else none
  | .sortedSet, xs => if okOrd xs then some (.tmp (sortD ltv (dedup xs))) else none
  | .lenSet, xs => if okOrd xs then some (.val (.int (dedup xs).length)) else none
  | .maxD i, xs => maxD (some (.int i)) xs
  | .minN, xs => minD (some .none) xs
  | .min, xs => minD none xs
  | .max, xs => maxD none xs
/-- a list alone -/
def mLst (a : ME) : MI := fun ρ => match a ρ with
  | none => none
  | some (r, ρ1) => match share r ρ1 with
    | some (.list xs, ρ2) => some (xs, ρ2)
    | _ => none
def dEat (f : List D → Option R) (it : MI) : ME := fun ρ => match it ρ with
  | none => none
  | some (xs, ρ1) => match f xs with
    | none => none
    | some r => some (r, ρ1)
/-- sorted(it, key=lambda x: e): slots of the lambda's own names -/
def keysOf (i : Nat) (key : ME) : List D → Env → Option (List (D × D))
  | [], _ => some []
  | x :: xs, ρ => match gName i x ρ with
    | none => none
    | some ρ1 => match key ρ1 with
      | none => none
      | some (r, ρ2) => match look r ρ2, keysOf i key xs ρ with
        | some d, some ps => some ((d, x) :: ps)
        | _, _ => none
def sortK : List (D × D) → List (D × D)
  | [] => []
  | x :: xs => insL x (sortK xs)
where insL (x : D × D) : List (D × D) → List (D × D)
  | [] => [x]
  | y :: ys => if ltv y.1 x.1 then y :: insL x ys else x :: y :: ys
def dSortK (i : Nat) (key : ME) (it : MI) : ME := fun ρ => match it ρ with
  | none => none
  | some (xs, ρ1) => match keysOf i key xs ρ1 with
    | none => none
    | some ps => if okOrd (ps.map (·.1)) then some (.tmp ((sortK ps).map (·.2)), ρ1) else none

/-! methods -/
def fIndex : D → D → Option R
  | .list xs, y => if shp y && shp (.list xs) then (xs.findIdx? fun z => PyData.eqv z y).map fun k => .val (.int (k : Int)) else none
  | .tuple xs, y => if shp y && shp (.list xs) then (xs.findIdx? fun z => PyData.eqv z y).map fun k => .val (.int (k : Int)) else none
  | _, _ => none
def fCount : D → D → Option R
  | .list xs, y => if shp y && shp (.list xs) then some (.val (.int ((xs.filter fun z => PyData.eqv z y).length : Int))) else none
  | .tuple xs, y => if shp y && shp (.list xs) then some (.val (.int ((xs.filter fun z => PyData.eqv z y).length : Int))) else none
  | .str z, .str y => if y.length = 1 then some (.val (.int ((z.cps.toList.filter fun c => [c] == y.cps.toList).length : Int))) else none
  | _, _ => none
/-- a list of the frame's own is there -/
def ownL (ρ : Env) (i : Nat) : Bool := match get ρ i with
  | some (.own _) => true
  | _ => false
def dPop (i : Nat) (e : Option ME) : ME := fun ρ => if ownL ρ i then match dPart e ρ with
  | none => none
  | some (k, ρ1) => match get ρ1 i with
    | some (.own xs) => match L2.ixN xs.length (k.getD (-1)) with
      | none => none
      | some j => match xs[j]? with
        | none => none
        | some d => if small62 (k.getD (-1)) then some (.val d, ρ1.set i (some (.own (xs.eraseIdx j)))) else none
    | _ => none
  else none
/-! dicts -/
def keyIx (kvs : List (D × D)) (k : D) : Option Nat := kvs.findIdx? fun p => PyData.eqv p.1 k
def dictPut (kvs : List (D × D)) (k v : D) : List (D × D) := match keyIx kvs k with
  | some j => match kvs[j]? with
    | some p => kvs.set j (p.1, v)
    | none => kvs
  | none => kvs ++ [(k, v)]
mutual
def hashOk : D → Bool
  | .none | .int _ | .str _ => true
  | .tuple xs => hashOkL xs
  | _ => false
def hashOkL : List D → Bool
  | [] => true
  | x :: xs => hashOk x && hashOkL xs
end
def dDictNew : ME := fun ρ => some (.tdc [], ρ)
def fIxO : OV → D → Option R
  | .d x, y => fIx x y
  | .dc kvs, k => if hashOk k then match keyIx kvs k with
      | none => none
      | some j => (kvs[j]?).map fun p => .val p.2
    else none
def dIx (a b : ME) : ME := dOpO fIxO a b
def fInO (neg : Bool) : OV → D → Option R
  | .d c, x => rB (fCmp (if neg then .notin else .isin) x c)
  | .dc kvs, k => if hashOk k then some (.val (.bool (if neg then !(keyIx kvs k).isSome else (keyIx kvs k).isSome))) else none
def dIn (neg : Bool) (a b : ME) : ME := fun ρ => match a ρ with
  | none => none
  | some (ra, ρ1) => match b ρ1 with
    | none => none
    | some (rb, ρ2) => match look ra ρ2, lookO rb ρ2 with
      | some x, some c => match fInO neg c x with
        | none => none
        | some r => some (r, ρ2)
      | _, _ => none
def fLenO : OV → Option R
  | .d x => fLen x
  | .dc kvs => some (.val (.int kvs.length))
def dLen (a : ME) : ME := fun ρ => match a ρ with
  | none => none
  | some (r, ρ1) => match lookO r ρ1 with
    | none => none
    | some x => match fLenO x with
      | none => none
      | some r => some (r, ρ1)

/-! statements -/
inductive Fl where
  | nx | br | ct | ret (r : R)
abbrev MS := Env → Option (Fl × Env)
/-- moved into a slot -/
def put (i : Nat) (r : R) (ρ : Env) : Option Env :=
  if i < ρ.length ∧ canSet (get ρ i) then match r with
    | .val d => some (ρ.set i (some (.val d)))
    | .tmp xs => some (ρ.set i (some (.own xs)))
    | .tdc kvs => some (ρ.set i (some (.dc kvs)))
    | .slot j => match share (.slot j) ρ with
      | none => none
      | some (d, ρ1) => some (ρ1.set i (some (.val d)))
  else none
def sAsg (i : Nat) (e : ME) : MS := fun ρ => match e ρ with
  | none => none
  | some (r, ρ1) => match put i r ρ1 with
    | none => none
    | some ρ2 => some (.nx, ρ2)
/-- a target that is no name -/
def sAsgG (g : MG) (e : ME) : MS := fun ρ => match e ρ with
  | none => none
  | some (r, ρ1) => match share r ρ1 with
    | none => none
    | some (d, ρ2) => match g d ρ2 with
      | none => none
      | some ρ3 => some (.nx, ρ3)
/-- x, y = a, b: both sides written, the names the def's own -/
def sPar (is : List Nat) (es : List ME) : MS := fun ρ => match dArgs es ρ with
  | none => none
  | some (rs, ρ1) => match shares rs ρ1 with
    | none => none
    | some (ds, ρ2) => match gEach (is.map gName) ds ρ2 with
      | none => none
      | some ρ3 => some (.nx, ρ3)
def setAt (c : SV) (j : Int) (d : D) : Option SV := match c with
  | .own xs => (L2.ixN xs.length j).map fun n => .own (xs.set n d)
  | .io xs => (L2.ixN xs.length j).map fun n => .io (xs.set n d)
  | _ => none
/-- x[k] = v -/
def sSetIx (i : Nat) (k v : ME) : MS := fun ρ => match v ρ with
  | none => none
  | some (rv, ρ1) => if (get ρ1 i).isSome then match k ρ1 with
    | some (.val (.int j), ρ2) => match share rv ρ2 with
      | none => none
      | some (d, ρ3) => match get ρ3 i with
        | some c => match setAt c j d with
          | none => none
          | some c' => some (.nx, ρ3.set i (some c'))
        | _ => none
    | _ => none
  else none
def sAppend (i : Nat) (e : ME) : MS := fun ρ => if ownL ρ i then match e ρ with
  | none => none
  | some (r, ρ1) => match share r ρ1 with
    | none => none
    | some (d, ρ2) => match get ρ2 i with
      | some (.own xs) => if xs.length < LIM then some (.nx, ρ2.set i (some (.own (xs ++ [d])))) else none
      | _ => none
  else none
def sExtend (i : Nat) (e : ME) : MS := fun ρ => if ownL ρ i then match e ρ with
  | none => none
  | some (r, ρ1) => match look r ρ1 with
    | some (.list ys) => match get ρ1 i with
      | some (.own xs) => if xs.length + ys.length ≤ LIM then some (.nx, ρ1.set i (some (.own (xs ++ ys)))) else none
      | _ => none
    | _ => none
  else none
def sDrop (e : ME) : MS := fun ρ => match e ρ with
  | none => none
  | some (_, ρ1) => some (.nx, ρ1)
def sRet (e : ME) : MS := fun ρ => match e ρ with
  | none => none
  | some (.slot i, ρ1) => match get ρ1 i with
    | some (.val d) => some (.ret (.val d), ρ1)
    | some (.own xs) => some (.ret (.tmp xs), ρ1)
    | some (.dc kvs) => some (.ret (.tdc kvs), ρ1)
    | _ => none
  | some (r, ρ1) => some (.ret r, ρ1)
def sIf (c : MT) (a b : MS) : MS := fun ρ => match c ρ with
  | none => none
  | some (true, ρ1) => a ρ1
  | some (false, ρ1) => b ρ1
def sSeq (a b : MS) : MS := fun ρ => match a ρ with
  | none => none
  | some (.nx, ρ1) => b ρ1
  | some (f, ρ1) => some (f, ρ1)
def sNil : MS := fun ρ => some (.nx, ρ)
def forL (g : MG) (body : MS) : List D → Env → Option (Fl × Env)
  | [], ρ => some (.nx, ρ)
  | x :: xs, ρ => match g x ρ with
    | none => none
    | some ρ1 => match body ρ1 with
      | none => none
      | some (.br, ρ2) => some (.nx, ρ2)
      | some (.ret r, ρ2) => some (.ret r, ρ2)
      | some (_, ρ2) => forL g body xs ρ2
def sFor (g : MG) (it : MI) (body : MS) : MS := fun ρ => match it ρ with
  | none => none
  | some (xs, ρ1) => forL g body xs ρ1
def whileN (c : MT) (body : MS) : Nat → Env → Option (Fl × Env)
  | 0, _ => none
  | n + 1, ρ => match c ρ with
    | none => none
    | some (false, ρ1) => some (.nx, ρ1)
    | some (true, ρ1) => match body ρ1 with
      | none => none
      | some (.br, ρ2) => some (.nx, ρ2)
      | some (.ret r, ρ2) => some (.ret r, ρ2)
      | some (_, ρ2) => whileN c body n ρ2
def sWhile (c : MT) (body : MS) : MS := whileN c body 100000
def sAug (i : Nat) (f : D → D → Option R) (e : ME) : MS := fun ρ => match get ρ i with
  | some (.val x) => match e ρ with
    | none => none
    | some (r, ρ1) => match look r ρ1 with
      | none => none
      | some y => match f x y with
        | some (.val z) => some (.nx, ρ1.set i (some (.val z)))
        | _ => none
  | _ => none

/-! a def -/
def params (io : Bool) (ds : List D) : Env := match io, ds with
  | true, .list xs :: r => some (.io xs) :: r.map fun d => some (.val d)
  | _, ds => ds.map fun d => some (.val d)
def fnSem (io : Bool) (np nl : Nat) (body : MS) : List D → Option (R × List D) := fun ds =>
  if ds.length = np then match body (params io ds ++ List.replicate (nl - np) none) with
    | none => none
    | some (f, ρ) => match (match f with | .nx => some (.val .none) | .ret r => some r | _ => none : Option R) with
      | none => none
      | some r => match io, get ρ 0 with
        | false, _ => some (r, [])
        | true, some (.io xs) => some (r, xs)
        | _, _ => none
  else none
end LH
end

section
set_option Elab.async false
set_option linter.all false
set_option maxRecDepth 100000
/-! The D-level, further. -/
namespace LH
open PySem
def isListD : D → Bool
  | .list _ => true
  | _ => false
/-- o.m(e) of a list -/
def dMethL (f : D → D → Option R) (a b : ME) : ME := fun ρ => match a ρ with
  | none => none
  | some (ra, ρ1) => match look ra ρ1 with
    | none => none
    | some x0 => if isListD x0 then match b ρ1 with
        | none => none
        | some (rb, ρ2) => match look ra ρ2, look rb ρ2 with
          | some x, some y => match f x y with
            | none => none
            | some r => some (r, ρ2)
          | _, _ => none
      else none
def fIndexL : D → D → Option R
  | .list xs, y => if shp y && shp (.list xs) then (xs.findIdx? fun z => PyData.eqv z y).map fun (k : Nat) => .val (.int (k : Int)) else none
  | _, _ => none
def fCountL : D → D → Option R
  | .list xs, y => if shp y && shp (.list xs) then some (.val (.int ((xs.countP fun z => PyData.eqv z y : Nat) : Int))) else none
  | _, _ => none
end LH
end

section
set_option Elab.async false
set_option linter.all false
set_option maxRecDepth 100000
/-! From the text to the D-level. -/
namespace LH
open PySem

/-- st: the names that may be stored; dep: so deep may generator expressions be nested -/
structure Stat where
  N : List Str
  sc : Scope
  fn : Str → Option Fn
  st : List Str
  dep : Nat
def Stat.kind (S : Stat) (x : Str) : Option NameKind := S.sc.names.lookup x
def idxOf (N : List Str) (x : Str) : Option Nat := N.findIdx? (· == x)
def Stat.slot (S : Stat) (x : Str) : Option Nat := match S.kind x with
  | some .local | some .cell | some .free => idxOf S.N x
  | _ => none
/-- a name that may be stored -/
def Stat.loc (S : Stat) (x : Str) : Option Nat := if S.st.contains x then match S.kind x with
  | some .local | some .cell => idxOf S.N x
  | _ => none
  else none
def Stat.glob (S : Stat) (x : Str) : Bool := S.kind x == some .globalImplicit
inductive BN where
  | len | int | abs | min | max | sum | all | any | tuple | list | set | sorted | isinstance | range | enumerate | zip | str | bool
  deriving DecidableEq
def bnames : List (Str × BN) := [("len", .len), ("range", .range), ("tuple", .tuple), ("int", .int), ("isinstance", .isinstance), ("all", .all), ("any", .any), ("sorted", .sorted), ("enumerate", .enumerate), ("list", .list), ("set", .set), ("zip", .zip),
  ("sum", .sum), ("min", .min), ("max", .max), ("abs", .abs), ("str", .str), ("bool", .bool)]
def Stat.built (S : Stat) (x : Str) : Option BN := if S.glob x && (S.fn x).isNone then bnames.lookup x else none
def Stat.user (S : Stat) (x : Str) : Option Fn := if S.glob x then S.fn x else none
/-- the block's own names -/
def ownOf (N : List Str) (scope : Scope) : List (Str × Nat) := scope.names.filterMap fun (n, k) => if (k == .local || k == .cell) && n != (".0" : Str) then (idxOf N n).map fun i => (n, i) else none
def Stat.into (S : Stat) (scope : Scope) : Stat := { S with sc := L2.relS scope S.sc, st := (ownOf S.N scope).map (·.1) }
def Stat.gen (S : Stat) (scope : Scope) : Stat := { S with sc := scope, st := (ownOf S.N scope).map (·.1), dep := S.dep - 1 }
/-- the names that a def may store -/
def storable (sc : Scope) : List Str := sc.names.filterMap fun (n, k) => if k == .local || k == .cell then some n else none
/-- a generator expression's scope -/
def genC (scope : Scope) : Bool := !scope.isCoroutine && decide (scope.names.lookup (".0" : Str) = some .local)
def isTupE : Expr → Bool
  | .Tuple _ _ _ => true
  | _ => false
def isComp : Expr → Bool
  | .ListComp _ _ _ _ => true
  | _ => false
def notLst : Expr → Bool
  | .List _ _ => false
  | _ => true
def binOp : Operator → Option (D → D → Option R)
  | .Add => some fAdd
  | .Sub => some fSub
  | .Mult => some fMul
  | .FloorDiv => some fDiv
  | .Mod => some fMod
  | .Pow => some fPow
  | _ => none
def augOp : Operator → Option (D → D → Option R)
  | .Add => some fAugAdd
  | .Sub => some fSub
  | .Mult => some fAugMul
  | _ => none
def cmpOp : CmpOp → Option CO
  | .Eq => some .eq
  | .NotEq => some .ne
  | .Lt => some .lt
  | .LtE => some .le
  | .Gt => some .gt
  | .GtE => some .ge
  | _ => none
def tyOf : BN → Option Ty
  | .int => some .int
  | .bool => some .bool
  | .str => some .str
  | .tuple => some .tuple
  | .list => some .list
  | _ => none
def andAll (f : ME → ME → ME) : List ME → Option ME
  | [] => none
  | [a] => some a
  | a :: r => (andAll f r).map (f a)
def andAllT (f : MT → MT → MT) : List MT → Option MT
  | [] => none
  | [a] => some a
  | a :: r => (andAllT f r).map (f a)
def testAll : List MT → MT
  | [] => fun ρ => some (true, ρ)
  | [a] => a
  | a :: r => tAnd a (testAll r)
def eat1 : BN → Option CK
  | .sum => some .sum
  | .tuple => some .tuple
  | .list => some .list
  | .sorted => some .sorted
  | .min => some .min
  | .max => some .max
  | _ => none
end LH
end

section
set_option Elab.async false
set_option linter.all false
set_option maxRecDepth 100000
/-! From the text to the D-level: the translation. -/
namespace LH
open PySem
def notCall : Expr → Bool
  | .Call _ _ _ _ => false
  | _ => true
mutual
/-- the slots a target stores to -/
def tgOf : Nat → Stat → Expr → List Nat
  | 0, _, _ => []
  | n + 1, S, e => match e with
    | .Name x _ => match S.loc x with
      | some i => [i]
      | none => []
    | .Tuple l _ _ => tgsOf n S l
    | _ => []
def tgsOf : Nat → Stat → List Expr → List Nat
  | 0, _, _ => []
  | n + 1, S, [] => []
  | n + 1, S, e :: es => tgOf n S e ++ tgsOf n S es
end
mutual
def trE : Nat → Stat → Expr → Option ME
  | 0, _, _ => none
  | n + 1, S, e => match e with
    | .Constant (.int i) _ _ => some (dVal (.int i))
    | .Constant (.bool b) _ _ => some (dVal (.bool b))
    | .Constant .none _ _ => some (dVal .none)
    | .Constant (.str x) _ _ => some (dVal (.str x))
    | .Name x _ => (S.slot x).map dVar
    | .BinOp a o b _ => match binOp o, trE n S a, trE n S b with
      | some f, some ta, some tb => some (dOp2 f ta tb)
      | _, _, _ => none
    | .UnaryOp .USub a _ => (trE n S a).map (dOp1 fNeg)
    | .UnaryOp .Not a _ => (trE n S a).map dNot
    | .BoolOp .And l _ => (trL n S l).bind (andAll dAnd)
    | .BoolOp .Or l _ => (trL n S l).bind (andAll dOr)
    | .Compare a [.Is] [.Constant .none _ _] _ => (trE n S a).map (dOp1 (fIsN false))
    | .Compare a [.IsNot] [.Constant .none _ _] _ => (trE n S a).map (dOp1 (fIsN true))
    | .Compare a [.Is] [.Constant (.bool b) _ _] _ => (trE n S a).map (dOp1 (fIsB false b))
    | .Compare a [.IsNot] [.Constant (.bool b) _ _] _ => (trE n S a).map (dOp1 (fIsB true b))
    | .Compare a [.In] [b] _ => match trE n S a, trE n S b with
      | some ta, some tb => some (dIn false ta tb)
      | _, _ => none
    | .Compare a [.NotIn] [b] _ => match trE n S a, trE n S b with
      | some ta, some tb => some (dIn true ta tb)
      | _, _ => none
    | .Compare a [o] [b] _ => match cmpOp o, trE n S a, trE n S b with
      | some c, some ta, some tb => some (dCmp c ta tb)
      | _, _, _ => none
    | .Compare a [o, o'] [b, c] _ => match cmpOp o, cmpOp o', trE n S a, trE n S b, trE n S c with
      | some k, some k', some ta, some tb, some tc => some (dChain k k' ta tb tc)
      | _, _, _, _, _ => none
    | .IfExp c a b _ => match trT n S c, trE n S a, trE n S b with
      | some tc, some ta, some tb => some (dIf tc ta tb)
      | _, _, _ => none
    | .Tuple l _ _ => (trL n S l).map dTup
    | .List l _ => (trL n S l).map dLst
    | .Subscript a (.Slice lo hi none _) _ => match trE n S a, trO n S lo, trO n S hi with
      | some ta, some tl, some th => some (dCut ta tl th)
      | _, _, _ => none
    | .Subscript a b _ => match trE n S a, trE n S b with
      | some ta, some tb => some (dIx ta tb)
      | _, _ => none
    | .ListComp elt gens scope _ => match trC n S false elt gens scope with
      | some (own, te, it, g, ifs, cs) => some (dComp own te it g ifs cs)
      | none => none
    | .Call (.Attribute (.Name x _) m ap) [] [] cp => if m == ("pop" : Str) && ap.endLine == cp.line then (S.slot x).map fun i => dPop i none else none
    | .Call (.Attribute o m ap) [a] [] cp =>
      if !(ap.endLine == cp.line) then none
      else if m == ("pop" : Str) then match o with
        | .Name x _ => match S.slot x, trE n S a with
          | some i, some ta => some (dPop i (some ta))
          | _, _ => none
        | _ => none
      else if m == ("index" : Str) then if notCall o then match trE n S o, trE n S a with
          | some tb, some ta => some (dMethL fIndexL tb ta)
          | _, _ => none
        else none
      else none
    | .Call (.Name f _) args kws _ => match S.user f with
      | some fn => if !kws.isEmpty then none else
        if fn.io then match args with
          | .Name x _ :: r => match S.slot x, trL n S r with
            | some i, some tr => some (dCallIO fn.sem i tr)
            | _, _ => none
          | _ => none
        else (trL n S args).map (dCall fn.sem)
      | none => match S.built f, args, kws with
        | some .len, [a], [] => (trE n S a).map dLen
        | some .int, [a], [] => (trE n S a).map (dOp1 fInt)
        | some .abs, [a], [] => (trE n S a).map (dOp1 fAbs)
        | some .min, [a, b], [] => match trE n S a, trE n S b with
          | some ta, some tb => some (dOp2 fMin2 ta tb)
          | _, _ => none
        | some .max, [a, b], [] => match trE n S a, trE n S b with
          | some ta, some tb => some (dOp2 fMax2 ta tb)
          | _, _ => none
        | some .isinstance, [a, .Name t _], [] => match (S.built t).bind tyOf, trE n S a with
          | some ty, some ta => some (dOp1 (fIsI ty) ta)
          | _, _ => none
        | some .any, [.GeneratorExp elt gens scope gp], [] => (trGen n S .any (.GeneratorExp elt gens scope gp)).map dAnyG
        | some .all, [.GeneratorExp elt gens scope gp], [] => (trGen n S .all (.GeneratorExp elt gens scope gp)).map dAllG
        | some b, [a], [] => match eat1 b with
          | some f => trEat n S f a
          | _ => none
        | _, _, _ => none
    | _ => none
def trT : Nat → Stat → Expr → Option MT
  | 0, _, _ => none
  | n + 1, S, e => match e with
    | .UnaryOp .Not a _ => (trT n S a).map tNot
    | .BoolOp .And l _ => (trTL n S l).bind (andAllT tAnd)
    | .BoolOp .Or l _ => (trTL n S l).bind (andAllT tOr)
    | .Compare _ _ _ _ => (trE n S e).map tBool
    | .IfExp _ _ _ _ => none
    | e => (trE n S e).map tTru
def trL : Nat → Stat → List Expr → Option (List ME)
  | 0, _, _ => none
  | n + 1, S, [] => some []
  | n + 1, S, e :: es => match trE n S e, trL n S es with
    | some t, some ts => some (t :: ts)
    | _, _ => none
def trTL : Nat → Stat → List Expr → Option (List MT)
  | 0, _, _ => none
  | n + 1, S, [] => some []
  | n + 1, S, e :: es => match trT n S e, trTL n S es with
    | some t, some ts => some (t :: ts)
    | _, _ => none
def trO : Nat → Stat → Option Expr → Option (Option ME)
  | 0, _, _ => none
  | n + 1, S, none => some none
  | n + 1, S, some e => (trE n S e).map some
def trI : Nat → Stat → Bool → Expr → Option MI
  | 0, _, _, _ => none
  | n + 1, S, tup, e => match e with
    | .Call (.Name f p) args [] q => match S.built f, args with
      | some .range, [a] => (trE n S a).map mRng1
      | some .range, [a, b] => match trE n S a, trE n S b with
        | some ta, some tb => some (mRng2 ta tb)
        | _, _ => none
      | some .range, [a, b, c] => match trE n S a, trE n S b, trE n S c with
        | some ta, some tb, some tc => some (mRngD ta tb tc)
        | _, _, _ => none
      | some .enumerate, [a] => if tup then (trE n S a).map mEnum else none
      | some .zip, [a, b] => match trE n S a, trE n S b with
        | some ta, some tb => if tup then some (mZip ta tb) else none
        | _, _ => none
      | _, _ => (trE n S (.Call (.Name f p) args [] q)).map mSeq
    | e => (trE n S e).map mSeq
def trGen : Nat → Stat → GK → Expr → Option MW
  | 0, _, _, _ => none
  | n + 1, S, k, .GeneratorExp elt gens scope _ => if S.dep == 0 then none else match trC n S true elt gens scope with
    | some (own, te, it, g, ifs, cs) => some (dGen k own te it g ifs cs)
    | none => none
  | _, _, _, _ => none
def trEat : Nat → Stat → CK → Expr → Option ME
  | 0, _, _, _ => none
  | n + 1, S, k, e => match e with
    | .GeneratorExp elt gens scope gp => match k with
      | .tuple => (trGen n S .col (.GeneratorExp elt gens scope gp)).map (dEatG (fEat k))
      | .sum => (trGen n S .col (.GeneratorExp elt gens scope gp)).map (dEatG (fEat k))
      | _ => none
    | e => match k with
      | .tuple | .list => (trE n S e).map fun t => dEat (fEat k) (mSeq t)
      | .sorted => (trE n S e).map fun t => dEat (fEat k) (mLst t)
      | _ => none
def trG : Nat → Stat → Expr → Option MG
  | 0, _, _ => none
  | n + 1, S, e => match e with
    | .Name x _ => (S.loc x).map gName
    | .Tuple l _ _ => (trGL n S l).map gTup
    | _ => none
def trGL : Nat → Stat → List Expr → Option (List MG)
  | 0, _, _ => none
  | n + 1, S, [] => some []
  | n + 1, S, e :: es => match trG n S e, trGL n S es with
    | some t, some ts => some (t :: ts)
    | _, _ => none
/-- the clauses behind the first one -/
def trCl : Nat → Stat → List Comprehension → Option (List Cl)
  | 0, _, _ => none
  | n + 1, S, [] => some []
  | n + 1, S, c :: cs => match trG n S c.target, trI n S (isTupE c.target) c.iter, trTL n S c.ifs, trCl n S cs with
    | some g, some it, some ifs, some r => if c.is_async == 0 then some (⟨tgOf n S c.target ++ (match r with | c' :: _ => c'.ts | [] => []), g, it, testAll ifs⟩ :: r) else none
    | _, _, _, _ => none
def trC : Nat → Stat → Bool → Expr → List Comprehension → Scope → Option (List Nat × ME × MI × MG × MT × List Cl)
  | 0, _, _, _, _, _ => none
  | n + 1, S, gen, elt, gens, scope => match gens with
    | [] => none
    | c :: cs =>
      let own := ownOf S.N scope
      if L2.blkC S.N S.sc scope own && (!gen || (genC scope && notLst c.iter)) then
        let B := if gen then S.gen scope else S.into scope
        match trI n S (isTupE c.target) c.iter, trG n B c.target, trTL n B c.ifs, trCl n B cs, trE n B elt with
        | some it, some g, some ifs, some r, some te => if c.is_async == 0 && (tgOf n B c.target).all (fun i => (own.map (·.2)).contains i) && r.all (fun c => c.ts.all fun i => (own.map (·.2)).contains i) then some (own.map (·.2), te, it, g, testAll ifs, r) else none
        | _, _, _, _, _ => none
      else none
end
mutual
def trS : Nat → Stat → Stmt → Option MS
  | 0, _, _ => none
  | n + 1, S, st => match st with
    | .Assign [.Name x _] e _ => match S.loc x, trE n S e with
      | some i, some te => some (sAsg i te)
      | _, _ => none
    | .Assign [.Tuple [.Name x p, .Name y q] _ _] (.Tuple [a, b] _ _) _ => match S.loc x, S.loc y, trE n S a, trE n S b with
      | some i, some j, some ta, some tb => if i != j && x != y && p.line == q.line && S.kind x == some .local && S.kind y == some .local && !(constantsAlone 8 a && constantsAlone 8 b) && !(foldedForSure 8 a && foldedForSure 8 b) then some (sPar [i, j] [ta, tb]) else if S.kind x != some .local || S.kind y != some .local then some (sAsgG (gTup [gName i, gName j]) (dTup [ta, tb])) else none
      | _, _, _, _ => none
    | .Assign [.Tuple ts _ _] e _ => if isTupE e then none else match trGL n S ts, trE n S e with
      | some gs, some te => some (sAsgG (gTup gs) te)
      | _, _ => none
    | .Assign [.Subscript (.Name x _) k _] e _ => match S.slot x, trE n S k, trE n S e with
      | some i, some tk, some te => some (sSetIx i tk te)
      | _, _, _ => none
    | .AugAssign (.Name x _) o e _ => match S.loc x, augOp o, trE n S e with
      | some i, some f, some te => some (sAug i f te)
      | _, _, _ => none
    | .For tg it body [] _ => match trG n S tg, trI n S (isTupE tg) it, trB n S body with
      | some g, some ti, some tb => some (sFor g ti tb)
      | _, _, _ => none
    | .While c body [] _ => match trT n S c, trB n S body with
      | some tc, some tb => some (sWhile tc tb)
      | _, _ => none
    | .If c a b _ => match trT n S c, trB n S a, trB n S b with
      | some tc, some ta, some tb => some (sIf tc ta tb)
      | _, _, _ => none
    | .Return (some e) _ => (trE n S e).map sRet
    | .Expr (.Call (.Attribute (.Name x p) m a) [e] [] q) r =>
      if !(a.endLine == q.line) then none
      else if m == ("append" : Str) then match S.slot x, trE n S e with
        | some i, some te => some (sAppend i te)
        | _, _ => none
      else if m == ("extend" : Str) then match S.slot x, trE n S e with
        | some i, some te => some (sExtend i te)
        | _, _ => none
      else (trE n S (.Call (.Attribute (.Name x p) m a) [e] [] q)).map sDrop
    | .Expr e _ => if isComp e then none else (trE n S e).map sDrop
    | .Pass _ => some sNil
    | .Break _ => some fun ρ => some (.br, ρ)
    | .Continue _ => some fun ρ => some (.ct, ρ)
    | _ => none
def trB : Nat → Stat → List Stmt → Option MS
  | 0, _, _ => none
  | n + 1, S, [] => some sNil
  | n + 1, S, [s] => trS n S s
  | n + 1, S, s :: r => match trS n S s, trB n S r with
    | some a, some b => some (sSeq a b)
    | _, _ => none
end
def FUEL : Nat := 60
/-- so deep are generator expressions nested -/
def DEP : Nat := 2
/-- the def st, its names in N, the parameters first -/
def trDef (fn : Str → Option Fn) (io : Bool) (N : List Str) (st : Stmt) : Option (List D → Option (R × List D)) := match st with
  | .FunctionDef _ args body [] _ _ scope _ _ _ => (trB FUEL ⟨N, scope, fn, storable scope, DEP⟩ body).map (fnSem io args.args.length N.length)
  | _ => none
end LH
end

section
set_option Elab.async false
set_option linter.all false
set_option maxRecDepth 100000
set_option maxHeartbeats 1000000
/-! The relation between the D-level and the hand layer's heap. -/
namespace LH
open PySem PySem.Spec L2

/-! values -/
mutual
inductive Rp (F : Hp) : V → D → Prop
  | non : Rp F .non .none
  | bl (b : Bool) : Rp F (.bl b) (.bool b)
  | int (i : Int) : Rp F (.int i) (.int i)
  | str (x : Str) : Rp F (.str x) (.str x)
  | lst {a : Addr} {xs : List V} {ds : List D} : Rd F a (.lst xs) → RpL F xs ds → Rp F (.ref a) (.list ds)
  | tup {a : Addr} {xs : List V} {ds : List D} : Rd F a (.tup xs) → RpL F xs ds → Rp F (.ref a) (.tuple ds)
inductive RpL (F : Hp) : List V → List D → Prop
  | nil : RpL F [] []
  | cons {v : V} {vs : List V} {d : D} {ds : List D} : Rp F v d → RpL F vs ds → RpL F (v :: vs) (d :: ds)
end
def Sub (F H : Hp) : Prop := ∀ a o, F a = some o → H a = some o
theorem Sub.refl (F : Hp) : Sub F F := fun _ _ h => h
theorem Sub.trans {F G H : Hp} (a : Sub F G) (b : Sub G H) : Sub F H := fun x o h => b x o (a x o h)
theorem Rd.sub {F H : Hp} {a : Addr} {o : HO} (s : Sub F H) : Rd F a o → Rd H a o
  | .inl h => .inl (s _ _ h)
  | .inr ⟨o, h⟩ => .inr ⟨o, s _ _ h⟩
mutual
theorem Rp.mono {F H : Hp} (s : Sub F H) : ∀ {v : V} {d : D}, Rp F v d → Rp H v d
  | _, _, .non => .non
  | _, _, .bl b => .bl b
  | _, _, .int i => .int i
  | _, _, .str x => .str x
  | _, _, .lst h r => .lst (Rd.sub s h) (RpL.mono s r)
  | _, _, .tup h r => .tup (Rd.sub s h) (RpL.mono s r)
theorem RpL.mono {F H : Hp} (s : Sub F H) : ∀ {v : List V} {d : List D}, RpL F v d → RpL H v d
  | _, _, .nil => .nil
  | _, _, .cons a r => .cons (Rp.mono s a) (RpL.mono s r)
end
mutual
theorem Rp.dp {K : PySem.W.Frag} {F : Hp} : ∀ {v : V} {d : D}, Rp F v d → Dp K F v d
  | _, _, .non => .non
  | _, _, .bl b => .bl b
  | _, _, .int i => .int i
  | _, _, .str x => .str x
  | _, _, .lst h r => .lst (.inl h) (RpL.dp r)
  | _, _, .tup h r => .tup (.inl h) (RpL.dp r)
theorem RpL.dp {K : PySem.W.Frag} {F : Hp} : ∀ {v : List V} {d : List D}, RpL F v d → DpAll K F v d
  | _, _, .nil => .nil
  | _, _, .cons a r => .cons (Rp.dp a) (RpL.dp r)
end
theorem RpL.length {F : Hp} : ∀ {vs : List V} {ds : List D}, RpL F vs ds → vs.length = ds.length
  | _, _, .nil => rfl
  | _, _, .cons _ r => by simp [RpL.length r]
theorem RpL.get {F : Hp} : ∀ {vs : List V} {ds : List D} {i : Nat} {d : D}, RpL F vs ds → ds[i]? = some d → ∃ v, vs[i]? = some v ∧ Rp F v d
  | _, _, _, _, .nil, h => by simp at h
  | _, _, 0, _, .cons a r, h => by simp at h; subst h; exact ⟨_, rfl, a⟩
  | _, _, i + 1, _, .cons a r, h => by
    obtain ⟨v, h1, h2⟩ := RpL.get (i := i) r (by simpa using h)
    exact ⟨v, by simpa using h1, h2⟩
theorem RpL.getV {F : Hp} : ∀ {vs : List V} {ds : List D} {i : Nat} {v : V}, RpL F vs ds → vs[i]? = some v → ∃ d, ds[i]? = some d ∧ Rp F v d
  | _, _, _, _, .nil, h => by simp at h
  | _, _, 0, _, .cons a r, h => by simp at h; subst h; exact ⟨_, rfl, a⟩
  | _, _, i + 1, _, .cons a r, h => by
    obtain ⟨v, h1, h2⟩ := RpL.getV (i := i) r (by simpa using h)
    exact ⟨v, by simpa using h1, h2⟩
theorem RpL.append {F : Hp} : ∀ {vs ws : List V} {ds es : List D}, RpL F vs ds → RpL F ws es → RpL F (vs ++ ws) (ds ++ es)
  | _, _, _, _, .nil, s => s
  | _, _, _, _, .cons a r, s => .cons a (RpL.append r s)
theorem RpL.take {F : Hp} : ∀ {vs : List V} {ds : List D} (n : Nat), RpL F vs ds → RpL F (vs.take n) (ds.take n)
  | _, _, 0, _ => .nil
  | _, _, _ + 1, .nil => .nil
  | _, _, n + 1, .cons a r => .cons a (RpL.take n r)
theorem RpL.drop {F : Hp} : ∀ {vs : List V} {ds : List D} (n : Nat), RpL F vs ds → RpL F (vs.drop n) (ds.drop n)
  | _, _, 0, r => r
  | _, _, _ + 1, .nil => .nil
  | _, _, n + 1, .cons _ r => RpL.drop n r
theorem RpL.reverse {F : Hp} {vs : List V} {ds : List D} (r : RpL F vs ds) : RpL F vs.reverse ds.reverse := by
  induction vs generalizing ds with
  | nil => cases r; exact .nil
  | cons v vs ih => cases r with
    | cons a r => rw [List.reverse_cons, List.reverse_cons]; exact (ih r).append (.cons a .nil)
theorem RpL.set {F : Hp} {v : V} {d : D} (a : Rp F v d) : ∀ {vs : List V} {ds : List D} (n : Nat), RpL F vs ds → RpL F (vs.set n v) (ds.set n d)
  | _, _, _, .nil => .nil
  | _, _, 0, .cons _ r => .cons a r
  | _, _, n + 1, .cons b r => .cons b (RpL.set a n r)
theorem RpL.erase {F : Hp} : ∀ {vs : List V} {ds : List D} (n : Nat), RpL F vs ds → RpL F (vs.eraseIdx n) (ds.eraseIdx n)
  | _, _, _, .nil => .nil
  | _, _, 0, .cons _ r => r
  | _, _, n + 1, .cons b r => .cons b (RpL.erase n r)
theorem RpL.reps {F : Hp} {vs : List V} {ds : List D} (r : RpL F vs ds) : ∀ k : Nat, RpL F (List.replicate k vs).flatten (List.replicate k ds).flatten
  | 0 => .nil
  | k + 1 => by rw [List.replicate_succ, List.replicate_succ, List.flatten_cons, List.flatten_cons]; exact r.append (RpL.reps r k)

/-! tables of code objects -/
/-- a table; some c: the table of a code object that was made while the program ran -/
abbrev TL := List (Addr × Option Addr)
/-- o, at c, is a code object, its table at P -/
def IsCd (o : Obj) (c P : Addr) : Prop := ∃ vs file tf flags tg inF text tt, o.cls = .type "code" ∧ o.data = .fields vs ∧ vs[11]? = some (.ref P) ∧ vs.getD 11 .none = .ref P ∧ vs.getD 18 .none = .str file tf ∧
    vs.getD 7 .none = .int flags tg ∧ vs.getD 9 .none = .bool inF ∧ vs.getD 10 .none = .int text tt ∧ c ≠ P
theorem IsCd.hd {o : Obj} {c P : Addr} {h : Heap} (x : IsCd o c P) (e : h.get? c = some o) : PySem.W.CodeHd h c P := by
  obtain ⟨vs, file, tf, flags, tg, inF, text, tt, r⟩ := x
  exact ⟨o, vs, file, tf, flags, tg, inF, text, tt, e, r⟩
theorem IsCd.of {c P : Addr} {h : Heap} (x : PySem.W.CodeHd h c P) : ∃ o, h.get? c = some o ∧ IsCd o c P := by
  obtain ⟨o, vs, file, tf, flags, tg, inF, text, tt, e, r⟩ := x
  exact ⟨o, e, vs, file, tf, flags, tg, inF, text, tt, r⟩
def CdAt (F : Hp) (c P : Addr) : Prop := ∃ o φ, F c = some (.frz o (.ext φ)) ∧ IsCd o c P
theorem CdAt.mono {F F' : Hp} (s : Sub F F') {c P : Addr} (x : CdAt F c P) : CdAt F' c P := let ⟨o, u, e, r⟩ := x; ⟨o, u, s _ _ e, r⟩
/-- a table is held, and what it tells is known -/
def TabT (F H : Hp) (P : Addr) : Prop := ∃ ps : Array Value, H P = some (.tbl ps) ∧ TriplesOk ps.toList ∧ ∀ pos cv, codeAmong pos ps.toList = some cv → ∃ c P', cv = .ref c ∧ CdAt F c P'
structure TabsOk (T : TL) (F H : Hp) : Prop where
  one : ∀ q ∈ T, TabT F H q.1 ∧ ∀ c, q.2 = some c → CdAt F c q.1
  all : ∀ c P, CdAt F c P → TabT F H P
theorem TabT.tr {F F' H H' : Hp} {P : Addr} (f : ∀ c p, CdAt F c p → CdAt F' c p) (h : ∀ p ps, H p = some (.tbl ps) → H' p = some (.tbl ps)) (x : TabT F H P) : TabT F' H' P := by
  obtain ⟨ps, e, ok, k⟩ := x
  refine ⟨ps, h _ _ e, ok, fun pos cv q => ?_⟩
  obtain ⟨c, P', q1, q2⟩ := k pos cv q
  exact ⟨c, P', q1, f _ _ q2⟩
theorem TabsOk.tr {T : TL} {F F' H H' : Hp} (x : TabsOk T F H) (f : ∀ c p, CdAt F c p → CdAt F' c p) (b : ∀ c p, CdAt F' c p → CdAt F c p) (h : ∀ p ps, H p = some (.tbl ps) → H' p = some (.tbl ps)) : TabsOk T F' H' :=
  ⟨fun q hq => ⟨(x.one q hq).1.tr f h, fun c e => f _ _ ((x.one q hq).2 c e)⟩, fun c P e => (x.all c P (b c P e)).tr f h⟩
theorem TabsOk.heap {T : TL} {F H H' : Hp} (x : TabsOk T F H) (h : ∀ p ps, H p = some (.tbl ps) → H' p = some (.tbl ps)) : TabsOk T F H' := x.tr (fun _ _ z => z) (fun _ _ z => z) h
/-- more is frozen, no code object -/
theorem TabsOk.frz {T : TL} {F H : Hp} (x : TabsOk T F H) {p : Addr} {o : HO} (hf : F p = none) (no : ∀ ob u, o ≠ .frz ob u) : TabsOk T (upd F p o) H := by
  refine x.tr (fun c q z => z.mono fun a u e => ?_) (fun c q z => ?_) fun _ _ z => z
  · rw [upd_ne]
    · exact e
    · rintro rfl; rw [hf] at e; cases e
  · obtain ⟨ob, u, e, r⟩ := z
    by_cases h : c = p
    · subst h; rw [upd_same] at e; cases e; exact absurd rfl (no _ _)
    · rw [upd_ne h] at e; exact ⟨ob, u, e, r⟩
theorem TabsOk.sub {T T' : TL} {F H : Hp} (x : TabsOk T F H) (s : ∀ q ∈ T', q ∈ T) : TabsOk T' F H := ⟨fun q hq => x.one q (s q hq), x.all⟩
/-- what is seen: frozen, or a list of the frame's own -/
def Pk (F H : Hp) (v : V) (d : D) : Prop := Rp F v d ∨ ∃ a vs xs, v = .ref a ∧ d = .list xs ∧ H a = some (.lst vs) ∧ RpL F vs xs
theorem Pk.rp {F H : Hp} {v : V} {d : D} (s : Sub F H) : Pk F H v d → Rp H v d
  | .inl h => h.mono s
  | .inr ⟨a, vs, xs, e1, e2, h, r⟩ => by subst e1; subst e2; exact .lst (.inl h) (r.mono s)
theorem Pk.list {F H : Hp} {v : V} {xs : List D} (s : Sub F H) (h : Pk F H v (.list xs)) : ∃ a vs, v = .ref a ∧ Rd H a (.lst vs) ∧ RpL F vs xs := by
  rcases h with h | ⟨a, vs, xs, e1, e2, h, r⟩
  · cases h with
    | lst h r => exact ⟨_, _, rfl, Rd.sub s h, r⟩
  · cases e2; exact ⟨a, vs, e1, .inl h, r⟩
theorem Pk.tuple {F H : Hp} {v : V} {xs : List D} (h : Pk F H v (.tuple xs)) : ∃ a vs, v = .ref a ∧ Rd F a (.tup vs) ∧ RpL F vs xs := by
  rcases h with h | ⟨a, vs, xs, e1, e2, h, r⟩
  · cases h with
    | tup h r => exact ⟨_, _, rfl, h, r⟩
  · cases e2
theorem Pk.int {F H : Hp} {v : V} {i : Int} (h : Pk F H v (.int i)) : v = .int i := by
  rcases h with h | ⟨a, vs, xs, e1, e2, h, r⟩
  · cases h; rfl
  · cases e2
theorem Pk.bool {F H : Hp} {v : V} {i : Bool} (h : Pk F H v (.bool i)) : v = .bl i := by
  rcases h with h | ⟨a, vs, xs, e1, e2, h, r⟩
  · cases h; rfl
  · cases e2
theorem Pk.str {F H : Hp} {v : V} {i : Str} (h : Pk F H v (.str i)) : v = .str i := by
  rcases h with h | ⟨a, vs, xs, e1, e2, h, r⟩
  · cases h; rfl
  · cases e2
theorem Pk.none {F H : Hp} {v : V} (h : Pk F H v .none) : v = .non := by
  rcases h with h | ⟨a, vs, xs, e1, e2, h, r⟩
  · cases h; rfl
  · cases e2
theorem Pk.nodict {F H : Hp} {v : V} {kvs : List (D × D)} (h : Pk F H v (.dict kvs)) : False := by
  rcases h with h | ⟨a, vs, xs, e1, e2, h, r⟩
  · cases h
  · cases e2

/-! slots -/
def SV.isOwn : SV → Bool
  | .val _ => false
  | _ => true
def DcRep (F H : Hp) (kvs : List (D × D)) (a : Addr) : Prop := False
def Ent (B : Option Addr) (P F H : Hp) (sv : SV) (v : V) : Prop := match sv with
  | .val d => Rp F v d
  | .own xs => ∃ a vs, v = .ref a ∧ H a = some (.lst vs) ∧ RpL F vs xs ∧ F a = none ∧ P a = none
  | .io xs => ∃ a vs, v = .ref a ∧ H a = some (.lst vs) ∧ RpL F vs xs ∧ F a = none ∧ P a = none ∧ B = some a
  | .dc kvs => ∃ a, v = .ref a ∧ DcRep F H kvs a ∧ F a = none ∧ P a = none
theorem get_iff {ρ : Env} {i : Nat} {sv : SV} : get ρ i = some sv ↔ ρ[i]? = some (some sv) := by
  unfold get
  cases h : ρ[i]? with
  | none => simp
  | some o => cases o <;> simp
def NotOwned (ρ : Env) (σ : St) (a : Addr) : Prop := ∀ i sv, get ρ i = some sv → sv.isOwn = true → σ[i]? ≠ some (some (.ref a))
structure Rel (T : TL) (B : Option Addr) (P F H : Hp) (ρ : Env) (σ : St) : Prop where
  fh : Sub F H
  ph : Sub P H
  len : ρ.length = σ.length
  ent : ∀ i sv, get ρ i = some sv → ∃ v, σ[i]? = some (some v) ∧ Ent B P F H sv v
  dist : ∀ i j sv sv' a, get ρ i = some sv → get ρ j = some sv' → sv.isOwn = true → sv'.isOwn = true → σ[i]? = some (some (.ref a)) → σ[j]? = some (some (.ref a)) → i = j
  tabs : TabsOk T F H
  ptab : ∀ a o, P a = some o → ∀ ps, o ≠ .tbl ps
  ftab : ∀ a o, F a = some o → ∀ ps, o ≠ .tbl ps
/-- F has grown, nowhere where something is kept -/
structure Le (P F F' : Hp) : Prop where
  up : Sub F F'
  at_ : ∀ a, P a ≠ none → F' a = F a
theorem Le.refl (P F : Hp) : Le P F F := ⟨Sub.refl _, fun _ _ => rfl⟩
theorem Le.trans {P F G H : Hp} (a : Le P F G) (b : Le P G H) : Le P F H := ⟨a.up.trans b.up, fun x h => (b.at_ x h).trans (a.at_ x h)⟩
def RepR (P F H : Hp) (ρ : Env) (σ : St) (r : R) (v : V) : Prop := match r with
  | .val d => Rp F v d
  | .tmp xs => ∃ a vs, v = .ref a ∧ H a = some (.lst vs) ∧ RpL F vs xs ∧ F a = none ∧ P a = none ∧ NotOwned ρ σ a
  | .tdc kvs => ∃ a, v = .ref a ∧ DcRep F H kvs a ∧ F a = none ∧ P a = none ∧ NotOwned ρ σ a
  | .slot i => σ[i]? = some (some v)
/-- P with what r is alone to hold -/
def pin (P H : Hp) (r : R) (v : V) : Hp := match r, v with
  | .tmp _, .ref a => match H a with
    | some o => upd P a o
    | none => P
  | .tdc _, .ref a => match H a with
    | some o => upd P a o
    | none => P
  | _, _ => P
section
variable {T : TL} {B : Option Addr} {P P1 F F1 F2 H H1 H2 : Hp} {ρ ρ1 ρ2 : Env} {σ : St} {r : R} {v : V}
theorem Ent.own {sv : SV} (e : Ent B P F H sv v) (o : sv.isOwn = true) : ∃ a, v = .ref a ∧ F a = none ∧ P a = none := by
  cases sv with
  | val d => cases o
  | own xs => obtain ⟨a, vs, h1, h2, h3, h4, h5⟩ := e; exact ⟨a, h1, h4, h5⟩
  | io xs => obtain ⟨a, vs, h1, h2, h3, h4, h5, _⟩ := e; exact ⟨a, h1, h4, h5⟩
  | dc kvs => obtain ⟨a, h1, h2, h3, h4⟩ := e; exact ⟨a, h1, h3, h4⟩
/-- what is kept is nobody's own -/
theorem Rel.notOwned (R : Rel T B P F H ρ σ) {a : Addr} (h : P a ≠ none) : NotOwned ρ σ a := fun i sv g o e => by
  obtain ⟨w, h1, h2⟩ := R.ent i sv g
  obtain ⟨b, hb, _, hp⟩ := h2.own o
  rw [e] at h1
  cases h1
  cases hb
  exact h hp
theorem Rel.notOwnedF (R : Rel T B P F H ρ σ) {a : Addr} (h : F a ≠ none) : NotOwned ρ σ a := fun i sv g o e => by
  obtain ⟨w, h1, h2⟩ := R.ent i sv g
  obtain ⟨b, hb, hp, _⟩ := h2.own o
  rw [e] at h1
  cases h1
  cases hb
  exact h hp
/-- less is kept -/
theorem Rel.less (R : Rel T B P1 F H ρ σ) (s : Sub P P1) : Rel T B P F H ρ σ where
  fh := R.fh
  ph := s.trans R.ph
  len := R.len
  ent := fun i sv g => by
    obtain ⟨w, h1, h2⟩ := R.ent i sv g
    refine ⟨w, h1, ?_⟩
    have nn : ∀ a, P1 a = none → P a = none := fun a q => by
      cases e : P a with
      | none => rfl
      | some o => rw [s a o e] at q; cases q
    cases sv with
    | val d => exact h2
    | own xs => obtain ⟨a, vs, q1, q2, q3, q4, q5⟩ := h2; exact ⟨a, vs, q1, q2, q3, q4, nn a q5⟩
    | io xs => obtain ⟨a, vs, q1, q2, q3, q4, q5, q6⟩ := h2; exact ⟨a, vs, q1, q2, q3, q4, nn a q5, q6⟩
    | dc kvs => obtain ⟨a, q1, q2, q3, q4⟩ := h2; exact ⟨a, q1, q2, q3, nn a q4⟩
  dist := R.dist
  tabs := R.tabs
  ptab := fun a o e => R.ptab a o (s a o e)
  ftab := R.ftab
theorem Le.less (l : Le P1 F F1) (s : Sub P P1) : Le P F F1 := ⟨l.up, fun a h => l.at_ a fun q => by
  cases e : P a with
  | none => exact h e
  | some o => rw [s a o e] at q; cases q⟩
/-- one more is kept, that is nobody's own -/
theorem Rel.more (R : Rel T B P F H ρ σ) {a : Addr} {o : HO} (h : H a = some o) (nt : ∀ ps, o ≠ .tbl ps) (no : NotOwned ρ σ a) : Rel T B (upd P a o) F H ρ σ where
  fh := R.fh
  ph := fun b u e => by
    by_cases hb : b = a
    · subst hb; rw [upd_same] at e; cases e; exact h
    · rw [upd_ne hb] at e; exact R.ph b u e
  len := R.len
  ent := fun i sv g => by
    obtain ⟨w, h1, h2⟩ := R.ent i sv g
    refine ⟨w, h1, ?_⟩
    have nn : ∀ b, w = .ref b → sv.isOwn = true → P b = none → upd P a o b = none := fun b e q z => by
      rw [upd_ne]
      · exact z
      · rintro rfl; subst e; exact no i sv g q h1
    cases sv with
    | val d => exact h2
    | own xs => obtain ⟨b, vs, q1, q2, q3, q4, q5⟩ := h2; exact ⟨b, vs, q1, q2, q3, q4, nn b q1 rfl q5⟩
    | io xs => obtain ⟨b, vs, q1, q2, q3, q4, q5, q6⟩ := h2; exact ⟨b, vs, q1, q2, q3, q4, nn b q1 rfl q5, q6⟩
    | dc kvs => obtain ⟨b, q1, q2, q3, q4⟩ := h2; exact ⟨b, q1, q2, q3, nn b q1 rfl q4⟩
  dist := R.dist
  tabs := R.tabs
  ptab := fun b u e => by
    by_cases hb : b = a
    · subst hb; rw [upd_same] at e; cases e; exact nt
    · rw [upd_ne hb] at e; exact R.ptab b u e
  ftab := R.ftab
theorem pinA_sub (R : Rel T B P F H ρ σ) (b : Addr) : Sub P (match H b with | some o => upd P b o | none => P) := fun a o e => by
  cases h : H b with
  | none => exact e
  | some u =>
    show upd P b u a = some o
    by_cases hb : a = b
    · subst hb; rw [upd_same]; rw [R.ph a o e] at h; exact h.symm
    · rw [upd_ne hb]; exact e
theorem pin_sub (R : Rel T B P F H ρ σ) : Sub P (pin P H r v) := by
  cases r with
  | val d => cases v <;> exact Sub.refl _
  | slot i => cases v <;> exact Sub.refl _
  | tmp xs => cases v <;> first | exact Sub.refl _ | exact pinA_sub R _
  | tdc xs => cases v <;> first | exact Sub.refl _ | exact pinA_sub R _
theorem Rel.pin (R : Rel T B P F H ρ σ) (q : RepR P F H ρ σ r v) : Rel T B (pin P H r v) F H ρ σ := by
  unfold LH.pin
  cases r with
  | val d => cases v <;> exact R
  | slot i => cases v <;> exact R
  | tmp xs =>
    obtain ⟨a, vs, rfl, h, _, _, _, no⟩ := q
    dsimp only
    rw [h]
    exact R.more h (fun ps z => by cases z) no
  | tdc kvs => obtain ⟨a, rfl, h, _⟩ := q; exact h.elim
/-- a result outlives what comes behind -/
theorem RepR.keep (R1 : Rel T B P F1 H1 ρ1 σ) (q : RepR P F1 H1 ρ1 σ r v) (R2 : Rel T B (LH.pin P H1 r v) F2 H2 ρ2 σ) (l : Le (LH.pin P H1 r v) F1 F2) : RepR P F2 H2 ρ2 σ r v := by
  cases r with
  | val d => exact Rp.mono l.up q
  | slot i => exact q
  | tdc kvs => obtain ⟨a, rfl, h, _⟩ := q; exact h.elim
  | tmp xs =>
    obtain ⟨a, vs, rfl, h, rl, hf, hp, no⟩ := q
    have e : LH.pin P H1 (.tmp xs) (.ref a) = upd P a (.lst vs) := by unfold LH.pin; dsimp only; rw [h]
    rw [e] at R2 l
    have np : upd P a (.lst vs) a ≠ none := by rw [upd_same]; exact fun z => by cases z
    exact ⟨a, vs, rfl, R2.ph a _ upd_same, rl.mono l.up, (l.at_ a np).trans hf, hp, R2.notOwned np⟩
theorem look_pk (R : Rel T B P F H ρ σ) (q : RepR P F H ρ σ r v) {d : D} (h : look r ρ = some d) : Pk F H v d := by
  cases r with
  | val d' => cases h; exact .inl q
  | tmp xs => cases h; obtain ⟨a, vs, rfl, h1, h2, _⟩ := q; exact .inr ⟨a, vs, xs, rfl, rfl, h1, h2⟩
  | tdc kvs => cases h
  | slot i =>
    have h : (match get ρ i with
      | some (.val d) => some d
      | some (.own xs) => some (.list xs)
      | some (.io xs) => some (.list xs)
      | _ => none) = some d := h
    cases g : get ρ i with
    | none => rw [g] at h; cases h
    | some sv =>
      rw [g] at h
      obtain ⟨w, h1, h2⟩ := R.ent _ _ g
      rw [show σ[i]? = some (some v) from q] at h1; cases h1
      cases sv with
      | val d => cases h; exact .inl h2
      | own xs => cases h; obtain ⟨a, vs, rfl, h3, h4, _⟩ := h2; exact .inr ⟨a, vs, _, rfl, rfl, h3, h4⟩
      | io xs => cases h; obtain ⟨a, vs, rfl, h3, h4, _⟩ := h2; exact .inr ⟨a, vs, _, rfl, rfl, h3, h4⟩
      | dc kvs => cases h

/-- the heap has grown by new things -/
theorem Rel.grow (R : Rel T B P F H ρ σ) (s : Sub H H1) (nt : ∀ p, H1 p ≠ H p → H p = none) : Rel T B P F H1 ρ σ where
  fh := R.fh.trans s
  ph := R.ph.trans s
  len := R.len
  ent := fun i sv g => by
    obtain ⟨w, h1, h2⟩ := R.ent i sv g
    refine ⟨w, h1, ?_⟩
    cases sv with
    | val d => exact h2
    | own xs => obtain ⟨b, vs, q1, q2, q3, q4, q5⟩ := h2; exact ⟨b, vs, q1, s _ _ q2, q3, q4, q5⟩
    | io xs => obtain ⟨b, vs, q1, q2, q3, q4, q5, q6⟩ := h2; exact ⟨b, vs, q1, s _ _ q2, q3, q4, q5, q6⟩
    | dc kvs => obtain ⟨b, q1, q2, q3, q4⟩ := h2; exact q2.elim
  dist := R.dist
  tabs := R.tabs.heap fun p ps e => s _ _ e
  ptab := R.ptab
  ftab := R.ftab
theorem sub_upd {p : Addr} {o : HO} (hp : H p = none) : Sub H (upd H p o) := fun a u e => by
  rw [upd_ne]; exact e
  rintro rfl; rw [hp] at e; cases e
theorem Rel.laid (R : Rel T B P F H ρ σ) {p : Addr} {o : HO} (hp : H p = none) : Rel T B P F (upd H p o) ρ σ := by
  refine R.grow (sub_upd hp) fun q h => ?_
  by_cases e : q = p
  · subst e; exact hp
  · rw [upd_ne e] at h; exact absurd rfl h
theorem Rel.pNone (R : Rel T B P F H ρ σ) {p : Addr} (hp : H p = none) : P p = none := by
  cases e : P p with
  | none => rfl
  | some o => rw [R.ph p o e] at hp; cases hp
theorem Rel.fNone (R : Rel T B P F H ρ σ) {p : Addr} (hp : H p = none) : F p = none := by
  cases e : F p with
  | none => rfl
  | some o => rw [R.fh p o e] at hp; cases hp
theorem Rel.newNot (R : Rel T B P F H ρ σ) {p : Addr} (hp : H p = none) : NotOwned ρ σ p := fun i sv g o e => by
  obtain ⟨w, h1, h2⟩ := R.ent i sv g
  rw [e] at h1
  cases h1
  cases sv with
  | val d => cases o
  | own xs => obtain ⟨b, vs, q1, q2, _⟩ := h2; cases q1; rw [hp] at q2; cases q2
  | io xs => obtain ⟨b, vs, q1, q2, _⟩ := h2; cases q1; rw [hp] at q2; cases q2
  | dc kvs => obtain ⟨b, q1, q2, _⟩ := h2; exact q2.elim
/-- a thing is frozen -/
theorem Rel.frz (R : Rel T B P F H ρ σ) {p : Addr} {o : HO} (hp : H p = some o) (no : NotOwned ρ σ p) (hf : F p = none) (nt : ∀ ps, o ≠ .tbl ps) (nz : ∀ ob u, o ≠ .frz ob u) : Rel T B P (upd F p o) H ρ σ where
  fh := fun a u e => by
    by_cases q : a = p
    · subst q; rw [upd_same] at e; cases e; exact hp
    · rw [upd_ne q] at e; exact R.fh a u e
  ph := R.ph
  len := R.len
  ent := fun i sv g => by
    obtain ⟨w, h1, h2⟩ := R.ent i sv g
    refine ⟨w, h1, ?_⟩
    have s : Sub F (upd F p o) := sub_upd hf
    have nn : ∀ b, w = .ref b → sv.isOwn = true → F b = none → upd F p o b = none := fun b e q z => by
      rw [upd_ne]
      · exact z
      · rintro rfl; subst e; exact no i sv g q h1
    cases sv with
    | val d => exact Rp.mono s h2
    | own xs => obtain ⟨b, vs, q1, q2, q3, q4, q5⟩ := h2; exact ⟨b, vs, q1, q2, q3.mono s, nn b q1 rfl q4, q5⟩
    | io xs => obtain ⟨b, vs, q1, q2, q3, q4, q5, q6⟩ := h2; exact ⟨b, vs, q1, q2, q3.mono s, nn b q1 rfl q4, q5, q6⟩
    | dc kvs => obtain ⟨b, q1, q2, q3, q4⟩ := h2; exact q2.elim
  dist := R.dist
  tabs := R.tabs.frz hf nz
  ptab := R.ptab
  ftab := fun b u e => by
    by_cases q : b = p
    · subst q; rw [upd_same] at e; cases e; exact nt
    · rw [upd_ne q] at e; exact R.ftab b u e
theorem le_upd {p : Addr} {o : HO} (hf : F p = none) (hp : P p = none) : Le P F (upd F p o) := ⟨sub_upd hf, fun a h => by
  rw [upd_ne]; rintro rfl; exact h hp⟩
/-- a new tuple -/
theorem Rel.newTup (R : Rel T B P F H ρ σ) {p : Addr} {vs : List V} {ds : List D} (hp : H p = none) (r : RpL F vs ds) :
    Le P F (upd F p (.tup vs)) ∧ Rel T B P (upd F p (.tup vs)) (upd H p (.tup vs)) ρ σ ∧ Rp (upd F p (.tup vs)) (.ref p) (.tuple ds) := by
  have hf := R.fNone hp
  refine ⟨le_upd hf (R.pNone hp), (R.laid hp).frz upd_same (R.newNot hp) hf (fun ps z => by cases z) (fun ob u z => by cases z), .tup (.inl upd_same) (r.mono (sub_upd hf))⟩
/-- a new list -/
theorem Rel.newLst (R : Rel T B P F H ρ σ) {p : Addr} {vs : List V} {ds : List D} (hp : H p = none) (r : RpL F vs ds) :
    Rel T B P F (upd H p (.lst vs)) ρ σ ∧ RepR P F (upd H p (.lst vs)) ρ σ (.tmp ds) (.ref p) :=
  ⟨R.laid hp, p, vs, rfl, upd_same, r, R.fNone hp, R.pNone hp, R.newNot hp⟩
end

/-! ### readings -/
def rdE (T : TL) (B : Option Addr) (den : ME) : TE := fun σ H Q => ∃ P F ρ r ρ', Rel T B P F H ρ σ ∧ den ρ = some (r, ρ') ∧
  ∀ v H' F', Le P F F' → Rel T B P F' H' ρ' σ → RepR P F' H' ρ' σ r v → Q v H'
def rdT (T : TL) (B : Option Addr) (den : MT) : TT := fun σ H Q => ∃ P F ρ k ρ', Rel T B P F H ρ σ ∧ den ρ = some (k, ρ') ∧
  ∀ H' F', Le P F F' → Rel T B P F' H' ρ' σ → Q k H'
theorem PE.imp {X : Cx} {e : Expr} {t t' : TE} (h : PE X e t) (i : ∀ σ H Q, t' σ H Q → t σ H Q) : PE X e t' := ⟨fun pins s σ H Q I q => h.run pins s σ H Q I (i σ H Q q)⟩
theorem PT.imp {X : Cx} {e : Expr} {t t' : TT} (h : PT X e t) (i : ∀ σ H Q, t' σ H Q → t σ H Q) : PT X e t' := ⟨fun pins s σ H Q I q => h.run pins s σ H Q I (i σ H Q q)⟩

/-! ### one, two operands -/
theorem dOp1_some {f : D → Option R} {a : ME} {ρ ρ1 : Env} {r : R} (h : dOp1 f a ρ = some (r, ρ1)) : ∃ ra x, a ρ = some (ra, ρ1) ∧ look ra ρ1 = some x ∧ f x = some r := by
  unfold dOp1 at h
  split at h
  · cases h
  · rename_i ra ρ' e1
    split at h
    · cases h
    · rename_i x e2
      split at h
      · cases h
      · rename_i r' e3
        cases h
        exact ⟨ra, x, e1, e2, e3⟩
theorem dOp2_some {f : D → D → Option R} {a b : ME} {ρ ρ2 : Env} {r : R} (h : dOp2 f a b ρ = some (r, ρ2)) :
    ∃ ra ρ1 rb x y, a ρ = some (ra, ρ1) ∧ b ρ1 = some (rb, ρ2) ∧ look ra ρ2 = some x ∧ look rb ρ2 = some y ∧ f x y = some r := by
  unfold dOp2 at h
  split at h
  · cases h
  · rename_i ra ρ1 e1
    split at h
    · cases h
    · rename_i rb ρ' e2
      split at h
      · rename_i x y e3 e4
        split at h
        · cases h
        · rename_i r' e5
          cases h
          exact ⟨ra, ρ1, rb, x, y, e1, e2, e3, e4, e5⟩
      · cases h
/-- the rule rr of two values serves f -/
def Serves2 (rr : R2) (f : D → D → Option R) : Prop := ∀ (T : TL) (B : Option Addr) (P F H : Hp) (ρ : Env) (σ : St) (x y : D) (vx vy : V) (r : R) (Q : VK), Rel T B P F H ρ σ → Pk F H vx x → Pk F H vy y → f x y = some r →
  (∀ v H' F', Le P F F' → Rel T B P F' H' ρ σ → RepR P F' H' ρ σ r v → Q v H') → rr vx vy H Q
def Serves1 (rr : V → Hp → VK → Prop) (f : D → Option R) : Prop := ∀ (T : TL) (B : Option Addr) (P F H : Hp) (ρ : Env) (σ : St) (x : D) (vx : V) (r : R) (Q : VK), Rel T B P F H ρ σ → Pk F H vx x → f x = some r →
  (∀ v H' F', Le P F F' → Rel T B P F' H' ρ σ → RepR P F' H' ρ σ r v → Q v H') → rr vx H Q
theorem rd_op2 {T : TL} {B : Option Addr} {rr : R2} {f : D → D → Option R} {da db : ME} (s : Serves2 rr f) (σ : St) (H : Hp) (Q : VK) (h : rdE T B (dOp2 f da db) σ H Q) : tOp rr (rdE T B da) (rdE T B db) σ H Q := by
  obtain ⟨P, F, ρ, r, ρ', R, e, k⟩ := h
  obtain ⟨ra, ρ1, rb, x, y, e1, e2, e3, e4, e5⟩ := dOp2_some e
  refine ⟨P, F, ρ, ra, ρ1, R, e1, fun va H1 F1 l1 R1 q1 => ?_⟩
  refine ⟨LH.pin P H1 ra va, F1, ρ1, rb, ρ', R1.pin q1, e2, fun vb H2 F2 l2 R2 q2 => ?_⟩
  have sb : Sub P (LH.pin P H1 ra va) := pin_sub R1
  have q1' := q1.keep R1 R2 l2
  refine s T B _ F2 H2 ρ' σ x y va vb r Q R2 (look_pk (R2.less sb) q1' e3) (look_pk R2 q2 e4) e5 fun v H' F' l R' q => ?_
  refine k v H' F' ((l1.trans (l2.less sb)).trans (l.less sb)) (R'.less sb) ?_
  have nn : ∀ a, LH.pin P H1 ra va a = none → P a = none := fun a z => by
    cases e : P a with
    | none => rfl
    | some o => rw [sb a o e] at z; cases z
  cases r with
  | val d => exact q
  | slot i => exact q
  | tmp xs => obtain ⟨a, vs, h1, h2, h3, h4, h5, h6⟩ := q; exact ⟨a, vs, h1, h2, h3, h4, nn a h5, h6⟩
  | tdc kvs => obtain ⟨a, h1, h2, h3, h4, h6⟩ := q; exact ⟨a, h1, h2, h3, nn a h4, h6⟩
theorem rd_op1 {T : TL} {B : Option Addr} {rr : V → Hp → VK → Prop} {f : D → Option R} {da : ME} (s : Serves1 rr f) (σ : St) (H : Hp) (Q : VK) (h : rdE T B (dOp1 f da) σ H Q) : tUn rr (rdE T B da) σ H Q := by
  obtain ⟨P, F, ρ, r, ρ', R, e, k⟩ := h
  obtain ⟨ra, x, e1, e2, e3⟩ := dOp1_some e
  refine ⟨P, F, ρ, ra, ρ', R, e1, fun va H1 F1 l1 R1 q1 => ?_⟩
  exact s T B P F1 H1 ρ' σ x va r Q R1 (look_pk R1 q1 e2) e3 fun v H' F' l R' q => k v H' F' (l1.trans l) R' q
end LH
end

section
set_option Elab.async false
set_option linter.all false
set_option maxRecDepth 100000
set_option maxHeartbeats 1000000
/-! Operators. -/
namespace LH
open PySem PySem.Spec L2

theorem lim : LIM = sizeLine := by decide
section
variable {X : Cx}
/-- list + list, a known one too -/
def rCatR : R2 := fun x y H Q => ∃ l b xs zs, x = .ref l ∧ y = .ref b ∧ Rd H l (.lst xs) ∧ Rd H b (.lst zs) ∧ xs.length + zs.length ≤ sizeLine ∧ ∀ p, H p = none → Q (.ref p) (upd H p (.lst (xs ++ zs)))
theorem op_catR : OpR X (binaryOp .Add) rCatR := by
  intro pins s σ H x y v u Q I rx ry h
  obtain ⟨l, b, xs, zs, rfl, rfl, hH, hB, hz, q⟩ := h
  cases rx
  cases ry
  obtain ⟨z, its, n, r, e⟩ := hH.ok I.hok
  obtain ⟨z2, its2, n2, r2, e2⟩ := hB.ok I.hok
  have hl := r.length
  have hl2 := r2.length
  refine PySem.P.add_list e e2 ?_ (by rw [List.size_toArray, List.size_toArray]; omega)
  have ea : its.toArray ++ its2.toArray = (its ++ its2).toArray := by simp
  rw [ea]
  exact ⟨.ref _, _, I.lnew (t' := s.toks) (r.append r2) (by rw [List.length_append]; omega), rfl, q _ I.fresh⟩

theorem le_here {T : TL} {B : Option Addr} {P F H : Hp} {ρ : Env} {σ : St} {r : R} {v : V} {Q : VK} (R : Rel T B P F H ρ σ) (q : RepR P F H ρ σ r v)
    (k : ∀ v H' F', Le P F F' → Rel T B P F' H' ρ σ → RepR P F' H' ρ σ r v → Q v H') : Q v H := k v H F (Le.refl _ _) R q

theorem le_val {T : TL} {B : Option Addr} {P F H : Hp} {ρ : Env} {σ : St} {d : D} {v : V} {Q : VK} (R : Rel T B P F H ρ σ) (q : Rp F v d)
    (k : ∀ v H' F', Le P F F' → Rel T B P F' H' ρ σ → RepR P F' H' ρ σ (.val d) v → Q v H') : Q v H := k v H F (Le.refl _ _) R q
theorem sv_add : Serves2 (fun x y H Q => (rI0 fun i j => .int (i + j)) x y H Q ∨ (∃ i j, x = .str i ∧ y = .str j ∧ i.length + j.length ≤ sizeLine ∧ Q (.str (i ++ j)) H) ∨ rCatA X.K x y H Q ∨ rCatR x y H Q) fAdd := by
  intro T B P F H ρ σ x y vx vy r Q R hx hy hf k
  unfold fAdd at hf
  split at hf
  · cases hf
    rw [hx.int, hy.int]
    exact .inl ⟨_, _, rfl, rfl, le_val R (.int _) k⟩
  · split at hf
    · rename_i hz
      cases hf
      rw [hx.str, hy.str]
      rw [lim] at hz
      exact .inr (.inl ⟨_, _, rfl, rfl, hz, le_val R (.str _) k⟩)
    · cases hf
  · split at hf
    · rename_i xs ys hz
      cases hf
      obtain ⟨a, vs, rfl, h1, h2⟩ := hx.tuple
      obtain ⟨b, ws, rfl, h3, h4⟩ := hy.tuple
      rw [lim, ← h2.length, ← h4.length] at hz
      refine .inr (.inr (.inl ⟨a, b, vs, ws, rfl, rfl, .inl (Rd.sub R.fh h1), .inl (Rd.sub R.fh h3), hz, fun e => ?_, fun e e2 => ?_, fun e e2 p hp => ?_⟩))
      · subst e; cases h2
        exact le_val R (.tup h3 h4) k
      · subst e2; cases h4
        rw [List.append_nil] at k
        exact le_val R (.tup h1 h2) k
      · obtain ⟨q1, q2, q3⟩ := R.newTup hp (h2.append h4)
        exact k _ _ _ q1 q2 q3
    · cases hf
  · split at hf
    · rename_i xs ys hz
      cases hf
      obtain ⟨a, vs, rfl, h1, h2⟩ := hx.list R.fh
      obtain ⟨b, ws, rfl, h3, h4⟩ := hy.list R.fh
      rw [lim, ← h2.length, ← h4.length] at hz
      refine .inr (.inr (.inr ⟨a, b, vs, ws, rfl, rfl, h1, h3, hz, fun p hp => ?_⟩))
      obtain ⟨q1, q2⟩ := R.newLst hp (h2.append h4)
      exact k _ _ _ (Le.refl _ _) q1 q2
    · cases hf
  · cases hf
theorem op_addA : OpR X (binaryOp .Add) (fun x y H Q => (rI0 fun i j => .int (i + j)) x y H Q ∨ (∃ i j, x = .str i ∧ y = .str j ∧ i.length + j.length ≤ sizeLine ∧ Q (.str (i ++ j)) H) ∨ rCatA X.K x y H Q ∨ rCatR x y H Q) :=
  op_add.or (op_add_str.or (op_catA.or op_catR))
theorem sv_sub : Serves2 (rI0 fun i j => .int (i - j)) fSub := by
  intro T B P F H ρ σ x y vx vy r Q R hx hy hf k
  unfold fSub at hf
  split at hf
  · cases hf
    rw [hx.int, hy.int]
    exact ⟨_, _, rfl, rfl, le_val R (.int _) k⟩
  · cases hf

/-- list * int, a known one too -/
def rRepR : R2 := fun x y H Q => ∃ l k xs, x = .ref l ∧ y = .int k ∧ Rd H l (.lst xs) ∧ -(2 ^ 63) ≤ k ∧ k < 2 ^ 63 ∧ xs.length * k.toNat ≤ sizeLine ∧
  ∀ p, H p = none → Q (.ref p) (upd H p (.lst (List.replicate k.toNat xs).flatten))
theorem flat_reps (us : List Value) : ∀ m : Nat, List.foldl (fun a b => a ++ b) #[] (List.replicate m us.toArray) = (List.replicate m us).flatten.toArray := fun m => by
  simpa using foldl_rep us m []
theorem op_repR : OpR X (binaryOp .Mult) rRepR := by
  intro pins s σ H x y v u Q I rx ry h
  obtain ⟨l, k, xs, rfl, rfl, hl, lo, hi, hz, q⟩ := h
  cases rx
  obtain ⟨tk, rfl⟩ := ry
  obtain ⟨z0, us, ep, r0, e0⟩ := hl.ok I.hok
  have le0 := r0.length
  have hz' : us.toArray.size * k.toNat ≤ sizeLine := by rw [List.size_toArray, ← le0]; exact hz
  have cap : ¬ us.toArray.size * k.toNat > (2 ^ 63 - 1) / 8 := by
    have : (sizeLine : Nat) ≤ (2 ^ 63 - 1) / 8 := by decide
    omega
  have fits : ¬ (!Builtin.List.listFitsIndex k) = true := by rw [fitsIndex_both lo hi]; decide
  have short : ¬ Builtin.List.listTooLong (us.toArray.size * k.toNat) = true := by rw [notLongL hz']; decide
  have made : List.foldl (fun a b => a ++ b) #[] (List.replicate (if us.toArray.isEmpty = true then 0 else k.toNat) us.toArray) = (List.replicate k.toNat us).flatten.toArray := by
    rw [flat_reps]
    cases us with
    | nil => simp
    | cons u0 ur => simp
  have t0 : s.TypeIs (.ref l) "list" := ⟨_, e0, rfl⟩
  refine wpAny_binaryOp_repeat_ref (T := "list") (U := "int") (by decide) t0 (fun s' => typeIs_int s' k tk) noFill_list_mul F.fills_int_mul F.slot_int_rmul repeat_list F.slot_int_index.lookup ?_
  refine call_meets F.slot_int_rmul (typeIs_int s k tk) F.entry_int_rmul (F.args_int_rmul_2 _ _) (int___rmul___int_list k tk l us.toArray ep) ⟨e0, rfl, t0, ?_⟩
  refine call_meets F.slot_list_mul t0 F.entry_list_mul (F.args_list_mul_2 _ _) (AutoListH.list___mul___list_int_3 l us.toArray ep k tk fits cap short) ⟨e0, ?_⟩
  rw [made]
  exact ⟨.ref _, _, I.lnew (t' := s.toks) (r0.rep k.toNat) (by rw [PyProof.Rows.lm_len_rep_flat, Nat.mul_comm]; exact hz), rfl, q _ I.fresh⟩
theorem sv_mul : Serves2 (fun x y H Q => (rI CMul fun i j => .int (i * j)) x y H Q ∨ rRepR x y H Q) fMul := by
  intro T B P F H ρ σ x y vx vy r Q R hx hy hf k
  unfold fMul at hf
  split at hf
  · split at hf
    · rename_i i j hz
      cases hf
      rw [hx.int, hy.int]
      refine .inl ⟨_, _, rfl, rfl, ?_, le_val R (.int _) k⟩
      simp only [smallI, Bool.or_eq_true, Bool.and_eq_true, decide_eq_true_eq] at hz
      unfold CMul
      omega
    · cases hf
  · split at hf
    · rename_i xs j hz
      cases hf
      obtain ⟨a, vs, rfl, h1, h2⟩ := hx.list R.fh
      rw [hy.int]
      simp only [smallI, Bool.and_eq_true, decide_eq_true_eq] at hz
      refine .inr ⟨a, j, vs, rfl, rfl, h1, by omega, by omega, ?_, fun p hp => ?_⟩
      · rw [h2.length, ← lim]; exact hz.2
      · obtain ⟨q1, q2⟩ := R.newLst hp (h2.reps j.toNat)
        exact k _ _ _ (Le.refl _ _) q1 q2
    · cases hf
  · cases hf
theorem sv_div : Serves2 (rI CDiv fun i j => .int (i / j)) fDiv := by
  intro T B P F H ρ σ x y vx vy r Q R hx hy hf k
  unfold fDiv at hf
  split at hf
  · split at hf
    · rename_i hz
      cases hf
      rw [hx.int, hy.int]
      exact ⟨_, _, rfl, rfl, hz, le_val R (.int _) k⟩
    · cases hf
  · cases hf
theorem sv_mod : Serves2 (rI (fun _ j => 0 < j) fun i j => .int (i % j)) fMod := by
  intro T B P F H ρ σ x y vx vy r Q R hx hy hf k
  unfold fMod at hf
  split at hf
  · split at hf
    · rename_i hz
      cases hf
      rw [hx.int, hy.int]
      exact ⟨_, _, rfl, rfl, hz, le_val R (.int _) k⟩
    · cases hf
  · cases hf
theorem sv_pow : Serves2 (rI CPow fun i j => .int (i ^ j.toNat)) fPow := by
  intro T B P F H ρ σ x y vx vy r Q R hx hy hf k
  unfold fPow at hf
  split at hf
  · split at hf
    · rename_i hz
      cases hf
      rw [hx.int, hy.int]
      exact ⟨_, _, rfl, rfl, hz, le_val R (.int _) k⟩
    · cases hf
  · cases hf
theorem sv_neg : Serves1 (rU fun i => .int (-i)) fNeg := by
  intro T B P F H ρ σ x vx r Q R hx hf k
  unfold fNeg at hf
  split at hf
  · cases hf
    rw [hx.int]
    exact ⟨_, rfl, le_val R (.int _) k⟩
  · cases hf
end
end LH
end

section
set_option Elab.async false
set_option linter.all false
set_option maxRecDepth 100000
set_option maxHeartbeats 1000000
/-! Comparisons, truth, items, slices, small built-ins. -/
namespace LH
open PySem PySem.Spec L2
section
variable {X : Cx}
def rInT (K : PySem.W.Frag) (neg : Bool) : R2 := fun x y H Q => ∃ d ds, Dp K H x d ∧ Dp K H y (.tuple ds) ∧ SeqAt.shaped d = true ∧ SeqAt.shaped (.tuple ds) = true ∧ Q (.bl (if neg then !ds.any (fun z => PyData.eqv z d) else ds.any fun z => PyData.eqv z d)) H
theorem op_inT (hu : X.A.units + 65 < cLine) : OpR X (compareOp .In) (rInT X.K false) := by
  intro pins s σ H x y v u Q I rx ry h
  obtain ⟨d, ds, hd, hds, sd, sds, q⟩ := h
  obtain ⟨as, r1⟩ := Dp.reads I d x v hd rx
  obtain ⟨bs, r2⟩ := Dp.reads I _ y u hds ry
  exact SeqAt.in_tuple_reads r2 r1 (SeqAt.canLay_of_shaped sds) (SeqAt.canLay_of_shaped sd) (PyProof.Rows.room_in_shaped sd hu) ⟨.bl _, H, I, rfl, q⟩
theorem op_notInT (hu : X.A.units + 65 < cLine) : OpR X (compareOp .NotIn) (rInT X.K true) := by
  intro pins s σ H x y v u Q I rx ry h
  obtain ⟨d, ds, hd, hds, sd, sds, q⟩ := h
  obtain ⟨as, r1⟩ := Dp.reads I d x v hd rx
  obtain ⟨bs, r2⟩ := Dp.reads I _ y u hds ry
  exact SeqAt.notIn_tuple_reads r2 r1 (SeqAt.canLay_of_shaped sds) (SeqAt.canLay_of_shaped sd) (PyProof.Rows.room_in_shaped sd hu) ⟨.bl _, H, I, rfl, q⟩
def rC (K : PySem.W.Frag) : CO → R2
  | .eq => rEqD K
  | .ne => rNeD K
  | .lt => rI0 fun i j => .bl (decide (i < j))
  | .le => rI0 fun i j => .bl (decide (i ≤ j))
  | .gt => rI0 fun i j => .bl (decide (j < i))
  | .ge => rI0 fun i j => .bl (decide (j ≤ i))
  | .isin => fun x y H Q => rInD K x y H Q ∨ rInT K false x y H Q
  | .notin => fun x y H Q => rNotInD K x y H Q ∨ rInT K true x y H Q
def opC : CO → CmpOp
  | .eq => .Eq
  | .ne => .NotEq
  | .lt => .Lt
  | .le => .LtE
  | .gt => .Gt
  | .ge => .GtE
  | .isin => .In
  | .notin => .NotIn
theorem op_C (hu : X.A.units + 65 < cLine) (o : CO) : OpR X (compareOp (opC o)) (rC X.K o) := by
  cases o with
  | eq => exact op_eqD (by omega)
  | ne => exact op_neD (by omega)
  | lt => exact op_lt
  | le => exact op_le
  | gt => exact op_gt
  | ge => exact op_ge
  | isin => exact (op_inD hu).or (op_inT hu)
  | notin => exact (op_notInD hu).or (op_notInT hu)
theorem pk_dp {K : PySem.W.Frag} {F H : Hp} {v : V} {d : D} (s : Sub F H) (h : Pk F H v d) : Dp K H v d := (h.rp s).dp
/-- a comparison's answer -/
theorem cmp_ok {T : TL} {B : Option Addr} {P F H : Hp} {ρ : Env} {σ : St} {K : PySem.W.Frag} (o : CO) {x y : D} {vx vy : V} {k : Bool} {Q : VK} (R : Rel T B P F H ρ σ) (hx : Pk F H vx x) (hy : Pk F H vy y) (hf : fCmp o x y = some k)
    (q : Q (.bl k) H) : rC K o vx vy H Q := by
  unfold fCmp at hf
  split at hf
  · split at hf
    · rename_i hs
      cases hf
      simp only [shp, Bool.and_eq_true] at hs
      exact ⟨_, _, pk_dp R.fh hx, pk_dp R.fh hy, hs.1, hs.2, q⟩
    · cases hf
  · split at hf
    · rename_i hs
      cases hf
      simp only [shp, Bool.and_eq_true] at hs
      exact ⟨_, _, pk_dp R.fh hx, pk_dp R.fh hy, hs.1, hs.2, q⟩
    · cases hf
  · cases hf; rw [hx.int, hy.int]; exact ⟨_, _, rfl, rfl, q⟩
  · cases hf; rw [hx.int, hy.int]; exact ⟨_, _, rfl, rfl, q⟩
  · cases hf; rw [hx.int, hy.int]; exact ⟨_, _, rfl, rfl, q⟩
  · cases hf; rw [hx.int, hy.int]; exact ⟨_, _, rfl, rfl, q⟩
  · split at hf
    · rename_i hs
      cases hf
      simp only [shp, Bool.and_eq_true] at hs
      exact .inl ⟨_, _, pk_dp R.fh hx, pk_dp R.fh hy, hs.1, hs.2, q⟩
    · cases hf
  · split at hf
    · rename_i hs
      cases hf
      simp only [shp, Bool.and_eq_true] at hs
      exact .inl ⟨_, _, pk_dp R.fh hx, pk_dp R.fh hy, hs.1, hs.2, q⟩
    · cases hf
  · split at hf
    · rename_i hs
      cases hf
      simp only [shp, Bool.and_eq_true] at hs
      exact .inr ⟨_, _, pk_dp R.fh hx, pk_dp R.fh hy, hs.1, hs.2, q⟩
    · cases hf
  · split at hf
    · rename_i hs
      cases hf
      simp only [shp, Bool.and_eq_true] at hs
      exact .inr ⟨_, _, pk_dp R.fh hx, pk_dp R.fh hy, hs.1, hs.2, q⟩
    · cases hf
  · cases hf
theorem sv_cmp {K : PySem.W.Frag} (o : CO) : Serves2 (rC K o) (fun x y => rB (fCmp o x y)) := by
  intro T B P F H ρ σ x y vx vy r Q R hx hy hf k
  have hf : rB (fCmp o x y) = some r := hf
  cases e : fCmp o x y with
  | none => rw [e] at hf; cases hf
  | some b =>
    rw [e] at hf
    cases hf
    exact cmp_ok o R hx hy e (le_val R (.bl b) k)

/-! truth -/
theorem tru_pk {K : PySem.W.Frag} {F H : Hp} {v : V} {d : D} {k : Bool} (s : Sub F H) (h : Pk F H v d) (e : truD d = some k) : TruV K v H k := by
  cases d with
  | none => rw [h.none]; cases e; rfl
  | bool b => rw [h.bool]; cases e; rfl
  | int i => rw [h.int]; cases e; rfl
  | str x =>
    rw [h.str]
    unfold truD at e
    dsimp only at e
    split at e
    · rename_i hz; cases e; rw [lim] at hz; exact ⟨hz, rfl⟩
    · cases e
  | list xs =>
    obtain ⟨a, vs, rfl, h1, h2⟩ := h.list s
    cases e
    refine .inl ⟨vs, .inl h1, ?_⟩
    cases h2 <;> rfl
  | tuple xs =>
    obtain ⟨a, vs, rfl, h1, h2⟩ := h.tuple
    cases e
    refine .inr (.inl ⟨vs, .inl (Rd.sub s h1), ?_⟩)
    cases h2 <;> rfl
  | dict kvs => cases e

/-! items -/
theorem atI_rp {F : Hp} {vs : List V} {xs : List D} {i : Int} {d : D} (r : RpL F vs xs) (h : L2.atI xs i = some d) : ∃ v, L2.atI vs i = some v ∧ Rp F v d := by
  unfold L2.atI at h ⊢
  rw [r.length]
  cases e : L2.ixN xs.length i with
  | none => rw [e] at h; cases h
  | some j =>
    rw [e] at h
    exact r.get h
theorem sv_ix : Serves2 (rIx X.K) fIx := by
  intro T B P F H ρ σ x y vx vy r Q R hx hy hf k
  unfold fIx at hf
  split at hf
  · rename_i xs i
    cases e : ixAt xs i with
    | none => rw [e] at hf; cases hf
    | some d =>
      rw [e] at hf; cases hf
      obtain ⟨a, vs, rfl, h1, h2⟩ := hx.list R.fh
      obtain ⟨v, h3, h4⟩ := atI_rp h2 e
      rw [hy.int]
      exact .inl ⟨a, vs, i, v, rfl, rfl, .inl h1, h3, le_val R h4 k⟩
  · rename_i xs i
    cases e : ixAt xs i with
    | none => rw [e] at hf; cases hf
    | some d =>
      rw [e] at hf; cases hf
      obtain ⟨a, vs, rfl, h1, h2⟩ := hx.tuple
      obtain ⟨v, h3, h4⟩ := atI_rp h2 e
      rw [hy.int]
      exact .inr (.inl ⟨a, vs, i, v, rfl, rfl, .inl (Rd.sub R.fh h1), h3, le_val R h4 k⟩)
  · rename_i z i
    split at hf
    · rename_i hz
      cases e : L2.atI z.cps.toList i with
      | none => rw [e] at hf; cases hf
      | some c =>
        rw [e] at hf; cases hf
        rw [hx.str, hy.int]
        rw [lim] at hz
        exact .inr (.inr ⟨z, i, c, rfl, rfl, hz, e, le_val R (.str _) k⟩)
    · cases hf
  · cases hf
theorem cut_rp {F : Hp} {vs : List V} {xs : List D} (r : RpL F vs xs) (lo hi : Option Int) : RpL F (cutV vs lo hi) (cutD xs lo hi) := by
  unfold cutV cutD
  rw [r.length]
  exact (r.drop _).take _
theorem sl_both : SlR X (fun x lo hi H Q => rSlL X.K x lo hi H Q ∨ rSlA X.K x lo hi H Q) := sl_list.or sl_tupA
theorem cutV_whole {vs : List V} {lo hi : Option Int} (h : HT.sIx vs.length 0 lo = 0 ∧ HT.sIx vs.length vs.length hi = vs.length) : cutV vs lo hi = vs := by
  unfold cutV; rw [h.1, h.2]; simp
theorem cutD_whole {vs : List D} {lo hi : Option Int} (h : HT.sIx vs.length 0 lo = 0 ∧ HT.sIx vs.length vs.length hi = vs.length) : cutD vs lo hi = vs := by
  unfold cutD; rw [h.1, h.2]; simp
theorem sv_cut (lo hi : Option Int) : Serves1 (fun x H Q => rSlL X.K x lo hi H Q ∨ rSlA X.K x lo hi H Q) (fCut lo hi) := by
  intro T B P F H ρ σ x vx r Q R hx hf k
  unfold fCut at hf
  split at hf
  · cases hf
    obtain ⟨a, vs, rfl, h1, h2⟩ := hx.list R.fh
    refine .inl ⟨a, vs, rfl, .inl h1, fun p hp => ?_⟩
    obtain ⟨q1, q2⟩ := R.newLst hp (cut_rp h2 lo hi)
    exact k _ _ _ (Le.refl _ _) q1 q2
  · rename_i xs
    cases hf
    obtain ⟨a, vs, rfl, h1, h2⟩ := hx.tuple
    refine .inr ⟨a, vs, rfl, .inl (Rd.sub R.fh h1), fun e => ?_, fun e p hp => ?_⟩
    · have e' := e
      rw [h2.length] at e'
      rw [cutD_whole e'] at k
      exact le_val R (.tup h1 h2) k
    · obtain ⟨q1, q2, q3⟩ := R.newTup hp (cut_rp h2 lo hi)
      exact k _ _ _ q1 q2 q3
  · cases hf

/-! built-ins of one and two -/
theorem sv_len : Serves1 (fun x H Q => ∃ n, LenV X.K x H n ∧ Q (.int n) H) fLen := by
  intro T B P F H ρ σ x vx r Q R hx hf k
  unfold fLen at hf
  split at hf
  · cases hf
    obtain ⟨a, vs, rfl, h1, h2⟩ := hx.list R.fh
    refine ⟨vs.length, .inl ⟨vs, .inl h1, rfl⟩, ?_⟩
    rw [h2.length]
    exact le_val R (.int _) k
  · cases hf
    obtain ⟨a, vs, rfl, h1, h2⟩ := hx.tuple
    refine ⟨vs.length, .inr ⟨vs, .inl (Rd.sub R.fh h1), rfl⟩, ?_⟩
    rw [h2.length]
    exact le_val R (.int _) k
  · split at hf
    · rename_i hz
      cases hf
      rw [hx.str]
      rw [lim] at hz
      exact ⟨_, ⟨hz, rfl⟩, le_val R (.int _) k⟩
    · cases hf
  · cases hf
theorem sv_int : Serves1 (fun x H Q => (∃ i, x = .int i ∧ Q (.int i) H) ∨ ∃ k, x = .bl k ∧ Q (.int (if k then 1 else 0)) H) fInt := by
  intro T B P F H ρ σ x vx r Q R hx hf k
  unfold fInt at hf
  split at hf
  · cases hf; rw [hx.int]; exact .inl ⟨_, rfl, le_val R (.int _) k⟩
  · cases hf; rw [hx.bool]; exact .inr ⟨_, rfl, le_val R (.int _) k⟩
  · cases hf
theorem sv_abs : Serves1 (fun x H Q => ∃ i, x = .int i ∧ Q (.int (if i < 0 then -i else i)) H) fAbs := by
  intro T B P F H ρ σ x vx r Q R hx hf k
  unfold fAbs at hf
  split at hf
  · cases hf; rw [hx.int]; exact ⟨_, rfl, le_val R (.int _) k⟩
  · cases hf
theorem sv_min2 : Serves2 (fun x y H Q => ∃ i j, x = .int i ∧ y = .int j ∧ Q (.int (if j < i then j else i)) H) fMin2 := by
  intro T B P F H ρ σ x y vx vy r Q R hx hy hf k
  unfold fMin2 at hf
  split at hf
  · cases hf; rw [hx.int, hy.int]; exact ⟨_, _, rfl, rfl, le_val R (.int _) k⟩
  · cases hf
theorem sv_max2 : Serves2 (fun x y H Q => ∃ i j, x = .int i ∧ y = .int j ∧ Q (.int (if j > i then j else i)) H) fMax2 := by
  intro T B P F H ρ σ x y vx vy r Q R hx hy hf k
  unfold fMax2 at hf
  split at hf
  · cases hf; rw [hx.int, hy.int]; exact ⟨_, _, rfl, rfl, le_val R (.int _) k⟩
  · cases hf
theorem sv_isN (neg : Bool) : Serves1 (fun x H Q => Q (.bl (if neg then !decide (x = .non) else decide (x = .non))) H) (fIsN neg) := by
  intro T B P F H ρ σ x vx r Q R hx hf k
  unfold fIsN at hf
  cases hf
  have e : decide (vx = .non) = isNoneD x := by
    cases x with
    | none => rw [hx.none]; rfl
    | bool b => rw [hx.bool]; rfl
    | int b => rw [hx.int]; rfl
    | str b => rw [hx.str]; rfl
    | list b => obtain ⟨a, vs, rfl, _⟩ := hx.list R.fh; rfl
    | tuple b => obtain ⟨a, vs, rfl, _⟩ := hx.tuple; rfl
    | dict b => exact hx.nodict.elim
  show Q _ H
  rw [e]
  exact le_val R (.bl _) k
theorem sv_isB (neg b : Bool) : Serves1 (fun x H Q => ∃ a, x = .bl a ∧ Q (.bl (if neg then !decide (a = b) else decide (a = b))) H) (fIsB neg b) := by
  intro T B P F H ρ σ x vx r Q R hx hf k
  unfold fIsB at hf
  split at hf
  · cases hf; rw [hx.bool]; exact ⟨_, rfl, le_val R (.bl _) k⟩
  · cases hf
def tyName : Ty → String
  | .int => "int"
  | .bool => "bool"
  | .str => "str"
  | .tuple => "tuple"
  | .list => "list"
def ck : D → _root_.Fin 7
  | .none => 0
  | .bool _ => 1
  | .int _ => 2
  | .str _ => 3
  | .list _ => 4
  | .tuple _ => 5
  | .dict _ => 6
def clsN (k : _root_.Fin 7) : String := ["NoneType", "bool", "int", "str", "list", "tuple", "dict"].getD k.val ""
def isIN : Ty → _root_.Fin 7 → Bool
  | .int, k => k.val == 1 || k.val == 2
  | .bool, k => k.val == 1
  | .str, k => k.val == 3
  | .tuple, k => k.val == 5
  | .list, k => k.val == 4
theorem kit_isI {K : PySem.W.Frag} (ty : Ty) (k : _root_.Fin 7) : PySem.W.kitOne K (.type (clsN k)) (.type (tyName ty)) = some (isIN ty k) := by
  have h : ∀ k : _root_.Fin 7, kitB (clsN k) (tyName ty) = some (isIN ty k) := by cases ty <;> decide +kernel
  exact kit_ty (h k)
theorem ty_pk {K : PySem.W.Frag} {F H : Hp} {v : V} {d : D} (s : Sub F H) (h : Pk F H v d) : TyX K H v (.type (clsN (ck d))) := by
  cases d with
  | none => rw [h.none]; exact .base .non
  | bool b => rw [h.bool]; exact .base (.bl b)
  | int b => rw [h.int]; exact .base (.int b)
  | str b => rw [h.str]; exact .base (.str b)
  | list b =>
    obtain ⟨a, vs, rfl, h1, _⟩ := h.list s
    rcases h1 with h1 | ⟨o, h1⟩
    · exact .base (.lst h1)
    · exact .base (.frz h1)
  | tuple b =>
    obtain ⟨a, vs, rfl, h1, _⟩ := h.tuple
    rcases Rd.sub s h1 with h1 | ⟨o, h1⟩
    · exact .base (.tup h1)
    · exact .fTuple h1
  | dict b => exact h.nodict.elim
theorem sv_isI (ty : Ty) : Serves1 (fun x H Q => ∃ t b, TyX X.K H x t ∧ PySem.W.kitOne X.K t (.type (tyName ty)) = some b ∧ Q (.bl b) H) (fIsI ty) := by
  intro T B P F H ρ σ x vx r Q R hx hf k
  have e : fIsI ty x = (match x with | .dict _ => none | _ => some (.val (.bool (isIN ty (ck x))))) := by cases ty <;> cases x <;> rfl
  rw [e] at hf
  refine ⟨_, isIN ty (ck x), ty_pk R.fh hx, kit_isI ty _, ?_⟩
  cases x with
  | dict _ => cases hf
  | none => cases hf; exact le_val R (.bl _) k
  | bool _ => cases hf; exact le_val R (.bl _) k
  | int _ => cases hf; exact le_val R (.bl _) k
  | str _ => cases hf; exact le_val R (.bl _) k
  | list _ => cases hf; exact le_val R (.bl _) k
  | tuple _ => cases hf; exact le_val R (.bl _) k
end
end LH
end

section
set_option Elab.async false
set_option linter.all false
set_option maxRecDepth 100000
set_option maxHeartbeats 1000000
/-! Argument lists, sharing. -/
namespace LH
open PySem PySem.Spec L2

section
variable {T : TL} {B : Option Addr} {P P1 F F1 F2 H H1 H2 : Hp} {ρ ρ1 ρ2 ρ' : Env} {σ : St} {r : R} {v : V}
theorem get_set_self {ρ : Env} {i : Nat} {o : Option SV} (h : i < ρ.length) : get (ρ.set i o) i = o := by
  unfold get
  rw [List.getElem?_set_self h]
  rfl
theorem get_set_ne {ρ : Env} {i j : Nat} {o : Option SV} (h : i ≠ j) : get (ρ.set i o) j = get ρ j := by
  unfold get
  rw [List.getElem?_set_ne h]
theorem get_lt {ρ : Env} {i : Nat} {sv : SV} (h : get ρ i = some sv) : i < ρ.length := by
  have := get_iff.mp h
  exact (List.getElem?_eq_some_iff.mp this).1
/-- a list of the frame's own is frozen -/
theorem Rel.frzSlot (R : Rel T B P F H ρ σ) {i : Nat} {xs : List D} {a : Addr} {vs : List V} (g : get ρ i = some (.own xs)) (e : σ[i]? = some (some (.ref a))) (h : H a = some (.lst vs)) (rl : RpL F vs xs) (hf : F a = none) :
    Rel T B P (upd F a (.lst vs)) H (ρ.set i (some (.val (.list xs)))) σ ∧ Rp (upd F a (.lst vs)) (.ref a) (.list xs) := by
  have s : Sub F (upd F a (.lst vs)) := sub_upd hf
  have rp : Rp (upd F a (.lst vs)) (.ref a) (.list xs) := .lst (.inl upd_same) (rl.mono s)
  have lt := get_lt g
  refine ⟨⟨fun b u e => ?_, R.ph, by rw [List.length_set]; exact R.len, fun j sv gj => ?_, fun j k sv sv' b gj gk oj ok ej ek => ?_, R.tabs.frz hf (fun ob u z => by cases z), R.ptab, fun b u e => by
    by_cases q : b = a
    · subst q; rw [upd_same] at e; cases e; exact fun ps z => by cases z
    · rw [upd_ne q] at e; exact R.ftab b u e⟩, rp⟩
  · by_cases q : b = a
    · subst q; rw [upd_same] at e; cases e; exact h
    · rw [upd_ne q] at e; exact R.fh b u e
  · by_cases hj : i = j
    · subst hj
      rw [get_set_self lt] at gj
      cases gj
      exact ⟨_, e, rp⟩
    · rw [get_set_ne hj] at gj
      obtain ⟨w, h1, h2⟩ := R.ent j sv gj
      refine ⟨w, h1, ?_⟩
      have nn : ∀ b, w = .ref b → sv.isOwn = true → F b = none → upd F a (.lst vs) b = none := fun b q o z => by
        rw [upd_ne]
        · exact z
        · rintro rfl; subst q; exact hj (R.dist i j _ sv b g gj rfl o e h1)
      cases sv with
      | val d => exact Rp.mono s h2
      | own xs => obtain ⟨b, vs, q1, q2, q3, q4, q5⟩ := h2; exact ⟨b, vs, q1, q2, q3.mono s, nn b q1 rfl q4, q5⟩
      | io xs => obtain ⟨b, vs, q1, q2, q3, q4, q5, q6⟩ := h2; exact ⟨b, vs, q1, q2, q3.mono s, nn b q1 rfl q4, q5, q6⟩
      | dc kvs => obtain ⟨b, q1, q2, q3, q4⟩ := h2; exact q2.elim
  · have old : ∀ m sw, get (ρ.set i (some (.val (.list xs)))) m = some sw → sw.isOwn = true → get ρ m = some sw := fun m sw gm om => by
      by_cases hm : i = m
      · subst hm; rw [get_set_self lt] at gm; cases gm; cases om
      · rw [get_set_ne hm] at gm; exact gm
    exact R.dist j k sv sv' b (old j sv gj oj) (old k sv' gk ok) oj ok ej ek
theorem share_ok (R : Rel T B P F H ρ σ) (q : RepR P F H ρ σ r v) {d : D} (h : share r ρ = some (d, ρ')) :
    ∃ F', Le P F F' ∧ Rel T B P F' H ρ' σ ∧ Rp F' v d ∧ (∀ a, F' a ≠ F a → v = .ref a ∧ F a = none ∧ (NotOwned ρ σ a → ∃ xs, r = .tmp xs)) ∧ ∀ i sv, get ρ' i = some sv → sv.isOwn = true → get ρ i = some sv := by
  cases r with
  | val d' => cases h; exact ⟨F, Le.refl _ _, R, q, fun a z => (z rfl).elim, fun i sv g _ => g⟩
  | tmp xs =>
    cases h
    obtain ⟨a, vs, rfl, h1, h2, h3, h4, h5⟩ := q
    refine ⟨upd F a (.lst vs), le_upd h3 h4, R.frz h1 h5 h3 (fun ps z => by cases z) (fun ob u z => by cases z), .lst (.inl upd_same) (h2.mono (sub_upd h3)), fun b z => ?_, fun i sv g _ => g⟩
    by_cases hb : b = a
    · subst hb; exact ⟨rfl, h3, fun _ => ⟨_, rfl⟩⟩
    · rw [upd_ne hb] at z; exact absurd rfl z
  | tdc kvs => cases h
  | slot i =>
    have h : (match get ρ i with
      | some (.val d) => some (d, ρ)
      | some (.own xs) => some (.list xs, ρ.set i (some (.val (.list xs))))
      | _ => none) = some (d, ρ') := h
    cases g : get ρ i with
    | none => rw [g] at h; cases h
    | some sv =>
      rw [g] at h
      obtain ⟨w, h1, h2⟩ := R.ent _ _ g
      have q : σ[i]? = some (some v) := q
      rw [q] at h1; cases h1
      cases sv with
      | val d => cases h; exact ⟨F, Le.refl _ _, R, h2, fun a z => (z rfl).elim, fun i sv g _ => g⟩
      | own xs =>
        cases h
        obtain ⟨a, vs, rfl, h3, h4, h5, h6⟩ := h2
        obtain ⟨R', rp⟩ := R.frzSlot g q h3 h4 h5
        refine ⟨_, le_upd h5 h6, R', rp, fun b z => ?_, fun j sv gj oj => ?_⟩
        · by_cases hb : b = a
          · subst hb; exact ⟨rfl, h5, fun no => (no i _ g rfl q).elim⟩
          · rw [upd_ne hb] at z; exact absurd rfl z
        · by_cases hj : i = j
          · subst hj; rw [get_set_self (get_lt g)] at gj; cases gj; cases oj
          · rw [get_set_ne hj] at gj; exact gj
      | io xs => cases h
      | dc kvs => cases h

/-! several results -/
def RepRs (F H : Hp) (ρ : Env) (σ : St) : Hp → List R → List V → Prop
  | _, [], [] => True
  | P, r :: rs, v :: vs => RepR P F H ρ σ r v ∧ RepRs F H ρ σ (pin P H r v) rs vs
  | _, _, _ => False
theorem NotOwned.sub {a : Addr} (h : NotOwned ρ σ a) (s : ∀ i sv, get ρ' i = some sv → sv.isOwn = true → get ρ i = some sv) : NotOwned ρ' σ a := fun i sv g o => h i sv (s i sv g o) o
/-- results outlive a sharing -/
theorem RepR.shared (q : RepR P1 F H ρ σ r v) (sp : Sub P P1) (l : Sub F F1) (hn : ∀ a, P1 a = none → NotOwned ρ σ a → F a = none → F1 a = none) (s : ∀ i sv, get ρ' i = some sv → sv.isOwn = true → get ρ i = some sv) :
    RepR P F1 H ρ' σ r v := by
  have nn : ∀ a, P1 a = none → P a = none := fun a z => by
    cases e : P a with
    | none => rfl
    | some o => rw [sp a o e] at z; cases z
  cases r with
  | val d => exact Rp.mono l q
  | slot i => exact q
  | tmp xs => obtain ⟨a, vs, h1, h2, h3, h4, h5, h6⟩ := q; exact ⟨a, vs, h1, h2, h3.mono l, hn a h5 h6 h4, nn a h5, h6.sub s⟩
  | tdc kvs => obtain ⟨a, h1, h2, _⟩ := q; exact h2.elim
theorem pin_mono (r : R) (v : V) (sp : Sub P P1) (ph : Sub P1 H) : Sub (pin P H r v) (pin P1 H r v) := by
  have two : ∀ a, Sub (match H a with | some o => upd P a o | none => P) (match H a with | some o => upd P1 a o | none => P1) := fun a b o e => by
    cases h : H a with
    | none => rw [h] at e; exact sp b o e
    | some u =>
      rw [h] at e
      show upd P1 a u b = some o
      have e : upd P a u b = some o := e
      by_cases hb : b = a
      · subst hb; rw [upd_same] at e ⊢; exact e
      · rw [upd_ne hb] at e ⊢; exact sp b o e
  cases r with
  | val d => cases v <;> exact sp
  | slot i => cases v <;> exact sp
  | tmp xs => cases v <;> first | exact sp | exact two _
  | tdc xs => cases v <;> first | exact sp | exact two _
theorem pin_le (r : R) (v : V) : ∀ a, pin P H r v a = none → P a = none ∨ H a = none := by
  have two : ∀ b a, (match H b with | some o => upd P b o | none => P) a = none → P a = none ∨ H a = none := fun b a e => by
    cases h : H b with
    | none => rw [h] at e; exact .inl e
    | some u =>
      rw [h] at e
      have e : upd P b u a = none := e
      by_cases hb : a = b
      · subst hb; rw [upd_same] at e; cases e
      · rw [upd_ne hb] at e; exact .inl e
  intro a e
  cases r with
  | val d => cases v <;> exact .inl e
  | slot i => cases v <;> exact .inl e
  | tmp xs => cases v <;> first | exact .inl e | exact two _ _ e
  | tdc xs => cases v <;> first | exact .inl e | exact two _ _ e
theorem RepRs.shared : ∀ {rs : List R} {vs : List V} {P P1 : Hp}, RepRs F H ρ σ P1 rs vs → Sub P P1 → Sub P1 H → Sub F F1 → (∀ a, P1 a = none → NotOwned ρ σ a → F a = none → F1 a = none) →
    (∀ i sv, get ρ' i = some sv → sv.isOwn = true → get ρ i = some sv) → RepRs F1 H ρ' σ P rs vs
  | [], [], _, _, _, _, _, _, _, _ => trivial
  | r :: rs, v :: vs, P, P1, q, sp, ph, l, hn, s => by
    obtain ⟨q1, q2⟩ := q
    refine ⟨q1.shared sp l hn s, RepRs.shared q2 (pin_mono r v sp ph) ?_ l (fun a h1 h2 h3 => ?_) s⟩
    · intro a o e
      have two : ∀ b, (match H b with | some o => upd P1 b o | none => P1) a = some o → H a = some o := fun b e => by
        cases h : H b with
        | none => rw [h] at e; exact ph a o e
        | some u =>
          rw [h] at e
          have e : upd P1 b u a = some o := e
          by_cases hb : a = b
          · subst hb; rw [upd_same] at e; cases e; exact h
          · rw [upd_ne hb] at e; exact ph a o e
      cases r with
      | val d => cases v <;> exact ph a o e
      | slot i => cases v <;> exact ph a o e
      | tmp xs => cases v <;> first | exact ph a o e | exact two _ e
      | tdc xs => cases v <;> first | exact ph a o e | exact two _ e
    · rcases pin_le r v a h1 with z | z
      · exact hn a z h2 h3
      · refine hn a ?_ h2 h3
        cases e : P1 a with
        | none => rfl
        | some o => rw [ph a o e] at z; cases z
theorem pin_ph (R : Rel T B P F H ρ σ) (q : RepR P F H ρ σ r v) : Sub (pin P H r v) H := (R.pin q).ph
theorem pin_there (r : R) {a : Addr} {xs : List D} {vs : List V} (e : r = .tmp xs) (h : H a = some (.lst vs)) : pin P H r (.ref a) a ≠ none := by
  subst e
  show (match H a with | some o => upd P a o | none => P) a ≠ none
  rw [h]
  show upd P a _ a ≠ none
  rw [upd_same]
  exact fun z => by cases z
theorem shares_ok : ∀ {rs : List R} {vs : List V} {ds : List D} {F : Hp} {ρ ρ' : Env}, Rel T B P F H ρ σ → RepRs F H ρ σ P rs vs → shares rs ρ = some (ds, ρ') →
    ∃ F', Le P F F' ∧ Rel T B P F' H ρ' σ ∧ RpL F' vs ds ∧ ∀ i sv, get ρ' i = some sv → sv.isOwn = true → get ρ i = some sv
  | [], [], _, F, ρ, _, R, _, h => by cases h; exact ⟨F, Le.refl _ _, R, .nil, fun i sv g _ => g⟩
  | r :: rs, v :: vs, ds, F, ρ, ρ', R, q, h => by
    obtain ⟨q1, q2⟩ := q
    unfold shares at h
    split at h
    · cases h
    · rename_i d ρ1 e1
      split at h
      · cases h
      · rename_i ds2 ρ2 e2
        cases h
        obtain ⟨F1, l1, R1, rp, hd, ho⟩ := share_ok R q1 e1
        have q3 : RepRs F1 H ρ1 σ P rs vs := RepRs.shared q2 (pin_sub R) (pin_ph R q1) l1.up (fun a h1 h2 h3 => by
          by_cases z : F1 a = F a
          · rw [z]; exact h3
          · obtain ⟨ev, _, hx⟩ := hd a z
            obtain ⟨xs, er⟩ := hx h2
            subst ev
            subst er
            obtain ⟨b, ws, eb, hb, _⟩ := q1
            cases eb
            exact absurd h1 (pin_there _ rfl hb)) ho
        obtain ⟨F2, l2, R2, rl, ho2⟩ := shares_ok R1 q3 e2
        exact ⟨F2, l1.trans l2, R2, .cons (rp.mono l2.up) rl, fun i sv g o => ho i sv (ho2 i sv g o) o⟩
  | [], _ :: _, _, _, _, _, _, q, _ => q.elim
  | _ :: _, [], _, _, _, _, _, q, _ => q.elim
theorem looks_pk : ∀ {rs : List R} {vs : List V} {ds : List D} {P : Hp}, Rel T B P F H ρ σ → RepRs F H ρ σ P rs vs → looks rs ρ = some ds → Paired (Pk F H) vs ds
  | [], [], _, _, _, _, h => by cases h; exact .nil
  | r :: rs, v :: vs, ds, P, R, q, h => by
    obtain ⟨q1, q2⟩ := q
    unfold looks at h
    split at h
    · rename_i d ds2 e1 e2
      cases h
      exact .cons (look_pk R q1 e1) (looks_pk (R.pin q1) q2 e2)
    · cases h
  | [], _ :: _, _, _, _, q, _ => q.elim
  | _ :: _, [], _, _, _, q, _ => q.elim

/-! argument lists -/
def rdA (T : TL) (B : Option Addr) (es : List ME) : TA := fun σ H Q => ∃ P F ρ rs ρ', Rel T B P F H ρ σ ∧ dArgs es ρ = some (rs, ρ') ∧
  ∀ vs H' F', Le P F F' → Rel T B P F' H' ρ' σ → RepRs F' H' ρ' σ P rs vs → Q vs H'
theorem pin_eq (R1 : Rel T B P F1 H1 ρ1 σ) (q : RepR P F1 H1 ρ1 σ r v) (R2 : Rel T B (LH.pin P H1 r v) F2 H2 ρ2 σ) : LH.pin P H1 r v = LH.pin P H2 r v := by
  cases r with
  | val d => cases v <;> rfl
  | slot i => cases v <;> rfl
  | tdc kvs => obtain ⟨a, _, h, _⟩ := q; exact h.elim
  | tmp xs =>
    obtain ⟨a, vs, rfl, h, _⟩ := q
    have e : LH.pin P H1 (.tmp xs) (.ref a) = upd P a (.lst vs) := by
      show (match H1 a with | some o => upd P a o | none => P) = _
      rw [h]
    rw [e] at R2 ⊢
    show _ = (match H2 a with | some o => upd P a o | none => P)
    rw [R2.ph a _ upd_same]
theorem rd_args_cons {e : ME} {es : List ME} {Q : List V → Hp → Prop} (h : rdA T B (e :: es) σ H Q) : tCons (rdE T B e) (rdA T B es) σ H Q := by
  obtain ⟨P, F, ρ, rs, ρ', R, ev, k⟩ := h
  unfold dArgs at ev
  split at ev
  · cases ev
  · rename_i r ρ1 e1
    split at ev
    · cases ev
    · rename_i rs2 ρ2 e2
      cases ev
      refine ⟨P, F, ρ, r, ρ1, R, e1, fun va H1 F1 l1 R1 q1 => ?_⟩
      refine ⟨LH.pin P H1 r va, F1, ρ1, rs2, _, R1.pin q1, e2, fun vs H2 F2 l2 R2 q2 => ?_⟩
      have sb : Sub P (LH.pin P H1 r va) := pin_sub R1
      refine k (va :: vs) H2 F2 (l1.trans (l2.less sb)) (R2.less sb) ⟨q1.keep R1 R2 l2, ?_⟩
      rw [← pin_eq R1 q1 R2]
      exact q2
theorem rd_args_nil {Q : List V → Hp → Prop} (h : rdA T B [] σ H Q) : tNil σ H Q := by
  obtain ⟨P, F, ρ, rs, ρ', R, ev, k⟩ := h
  cases ev
  exact k [] H F (Le.refl _ _) R trivial
theorem PA.imp {X : Cx} {e : List Expr} {t t' : TA} (h : PA X e t) (i : ∀ σ H Q, t' σ H Q → t σ H Q) : PA X e t' := ⟨fun pos pins s σ H Q I q => h.run pos pins s σ H Q I (i σ H Q q)⟩
theorem rd_tup {es : List ME} {Q : VK} (h : rdE T B (dTup es) σ H Q) : tTup (rdA T B es) σ H Q := by
  obtain ⟨P, F, ρ, r, ρ', R, ev, k⟩ := h
  unfold dTup at ev
  split at ev
  · cases ev
  · rename_i rs ρ1 e1
    split at ev
    · cases ev
    · rename_i ds ρ2 e2
      split at ev
      · rename_i hz
        cases ev
        refine ⟨P, F, ρ, rs, ρ1, R, e1, fun vs H1 F1 l1 R1 q1 => ?_⟩
        obtain ⟨F2, l2, R2, rl, _⟩ := shares_ok R1 q1 e2
        refine ⟨by rw [rl.length, ← lim]; exact hz, fun p hp => ?_⟩
        obtain ⟨l3, R3, q3⟩ := R2.newTup hp rl
        exact k _ _ _ ((l1.trans l2).trans l3) R3 q3
      · cases ev
theorem rd_lst {es : List ME} {Q : VK} (h : rdE T B (dLst es) σ H Q) : tLst (rdA T B es) σ H Q := by
  obtain ⟨P, F, ρ, r, ρ', R, ev, k⟩ := h
  unfold dLst at ev
  split at ev
  · cases ev
  · rename_i rs ρ1 e1
    split at ev
    · cases ev
    · rename_i ds ρ2 e2
      split at ev
      · rename_i hz
        cases ev
        refine ⟨P, F, ρ, rs, ρ1, R, e1, fun vs H1 F1 l1 R1 q1 => ?_⟩
        obtain ⟨F2, l2, R2, rl, _⟩ := shares_ok R1 q1 e2
        refine ⟨by rw [rl.length, ← lim]; exact hz, fun p hp => ?_⟩
        obtain ⟨R3, q3⟩ := R2.newLst hp rl
        exact k _ _ _ (l1.trans l2) R3 q3
      · cases ev
end
end LH
end

section
set_option Elab.async false
set_option linter.all false
set_option maxRecDepth 100000
set_option maxHeartbeats 1000000
/-! Expressions: the rules. -/
namespace LH
open PySem PySem.Spec L2

theorem room_units {k : Nat} {A : Around} (r : Room k A) : A.units + 65 < cLine := by have := r.un; omega
section
variable {X : Cx} {T : TL} {B : Option Addr} {a b c e : Expr} {da db dc : ME} {pos : Pos}

theorem pe_dInt {i : Int} {j pos} : PE X (.Constant (.int i) j pos) (rdE T B (dVal (.int i))) := PE.imp pe_int fun σ H Q h => by
  obtain ⟨P, F, ρ, r, ρ', R, ev, k⟩ := h
  cases ev
  exact k _ H F (Le.refl _ _) R (.int i)
theorem pe_dBool {i : Bool} {j pos} : PE X (.Constant (.bool i) j pos) (rdE T B (dVal (.bool i))) := PE.imp pe_bl fun σ H Q h => by
  obtain ⟨P, F, ρ, r, ρ', R, ev, k⟩ := h
  cases ev
  exact k _ H F (Le.refl _ _) R (.bl i)
theorem pe_dNone {j pos} : PE X (.Constant .none j pos) (rdE T B (dVal .none)) := PE.imp pe_non fun σ H Q h => by
  obtain ⟨P, F, ρ, r, ρ', R, ev, k⟩ := h
  cases ev
  exact k _ H F (Le.refl _ _) R .non
theorem pe_dStr {i : Str} {j pos} : PE X (.Constant (.str i) j pos) (rdE T B (dVal (.str i))) := PE.imp pe_str fun σ H Q h => by
  obtain ⟨P, F, ρ, r, ρ', R, ev, k⟩ := h
  cases ev
  exact k _ H F (Le.refl _ _) R (.str i)
theorem pe_dVar {i : Nat} {x : Str} (hN : X.N[i]? = some x) (hv : Vis X.env.scope x) (hd : (x == ("__debug__" : Str)) = false) (hcd : (x == ("__classdict__" : Str)) = false) : PE X (.Name x pos) (rdE T B (dVar i)) :=
  PE.imp (pe_var hN hv hd hcd) fun σ H Q h => by
    obtain ⟨P, F, ρ, r, ρ', R, ev, k⟩ := h
    have ev : (match get ρ i with
      | some (.val d) => some (LH.R.val d, ρ)
      | some _ => some (.slot i, ρ)
      | none => none) = some (r, ρ') := ev
    cases g : get ρ i with
    | none => rw [g] at ev; cases ev
    | some sv =>
      rw [g] at ev
      obtain ⟨v, h1, h2⟩ := R.ent i sv g
      refine ⟨v, h1, ?_⟩
      cases sv with
      | val d => cases ev; exact k v H F (Le.refl _ _) R h2
      | own xs => cases ev; exact k v H F (Le.refl _ _) R h1
      | io xs => cases ev; exact k v H F (Le.refl _ _) R h1
      | dc xs => cases ev; exact k v H F (Le.refl _ _) R h1
theorem pe_bin2 {op : Operator} {rr : R2} {f : D → D → Option R} (ho : OpR X (binaryOp op) rr) (s : Serves2 rr f) (ha : PE X a (rdE T B da)) (hb : PE X b (rdE T B db)) : PE X (.BinOp a op b pos) (rdE T B (dOp2 f da db)) :=
  PE.imp (pe_op ho ha hb) fun σ H Q h => rd_op2 s σ H Q h
theorem pe_binOp {op : Operator} {f : D → D → Option R} (e : binOp op = some f) (ha : PE X a (rdE T B da)) (hb : PE X b (rdE T B db)) : PE X (.BinOp a op b pos) (rdE T B (dOp2 f da db)) := by
  cases op with
  | Add => cases e; exact pe_bin2 op_addA sv_add ha hb
  | Sub => cases e; exact pe_bin2 op_sub sv_sub ha hb
  | Mult => cases e; exact pe_bin2 (op_mul.or op_repR) sv_mul ha hb
  | FloorDiv => cases e; exact pe_bin2 op_fdiv sv_div ha hb
  | Mod => cases e; exact pe_bin2 op_mod sv_mod ha hb
  | Pow => cases e; exact pe_bin2 op_pow sv_pow ha hb
  | _ => cases e
theorem pe_dNeg (ha : PE X a (rdE T B da)) : PE X (.UnaryOp .USub a pos) (rdE T B (dOp1 fNeg da)) := PE.imp (pe_un un_neg ha) fun σ H Q h => rd_op1 sv_neg σ H Q h

/-! truth -/
theorem tTru_some {ρ ρ' : Env} {k : Bool} (h : tTru da ρ = some (k, ρ')) : ∃ r d, da ρ = some (r, ρ') ∧ look r ρ' = some d ∧ truD d = some k := by
  unfold tTru at h
  split at h
  · cases h
  · rename_i r ρ1 e1
    split at h
    · cases h
    · rename_i d e2
      split at h
      · cases h
      · rename_i k' e3
        cases h
        exact ⟨r, d, e1, e2, e3⟩
theorem rd_tru {σ : St} {H : Hp} {Q : Bool → Hp → Prop} (h : rdT T B (tTru da) σ H Q) : (rdE T B da) σ H fun x H' => ∃ k, TruV X.K x H' k ∧ Q k H' := by
  obtain ⟨P, F, ρ, k, ρ', R, ev, q⟩ := h
  obtain ⟨r, d, e1, e2, e3⟩ := tTru_some ev
  exact ⟨P, F, ρ, r, ρ', R, e1, fun v H1 F1 l1 R1 q1 => ⟨k, tru_pk R1.fh (look_pk R1 q1 e2) e3, q H1 F1 l1 R1⟩⟩
def plainTest : Expr → Bool
  | .UnaryOp .Not _ _ => false
  | .BoolOp _ _ _ => false
  | .IfExp _ _ _ _ => false
  | .Compare _ _ _ _ => false
  | _ => true
theorem isTrue_plain {e : Expr} (h : plainTest e = true) (env : PySem.Env) : ∀ whole, isTrue e env whole = (do let v ← whole; standAt e.pos; holding [v] (truthy v)) := by
  intro whole
  cases e with
  | UnaryOp op x p => cases op <;> first | rfl | cases h
  | BoolOp op x p => cases h
  | IfExp a b c p => cases h
  | Compare a b c p => cases h
  | _ => rfl
theorem pt_dTru (hp : plainTest e = true) (ha : PE X e (rdE T B da)) : PT X e (rdT T B (tTru da)) := PT.imp (pt_truth ha (isTrue_plain hp X.env)) fun σ H Q h => rd_tru h
theorem pe_dNot (ha : PE X a (rdE T B da)) : PE X (.UnaryOp .Not a pos) (rdE T B (dNot da)) := PE.imp (pe_notT ha) fun σ H Q h => by
  obtain ⟨P, F, ρ, r, ρ', R, ev, k⟩ := h
  unfold dNot at ev
  split at ev
  · cases ev
  · rename_i b ρ1 e1
    cases ev
    obtain ⟨ra, d, e2, e3, e4⟩ := tTru_some e1
    exact ⟨P, F, ρ, ra, _, R, e2, fun v H1 F1 l1 R1 q1 => ⟨b, tru_pk R1.fh (look_pk R1 q1 e3) e4, k _ H1 F1 l1 R1 (.bl _)⟩⟩
theorem pt_dNot {ta : MT} (ha : PT X a (rdT T B ta)) : PT X (.UnaryOp .Not a pos) (rdT T B (tNot ta)) := PT.imp (pt_not ha) fun σ H Q h => by
  obtain ⟨P, F, ρ, r, ρ', R, ev, k⟩ := h
  unfold tNot at ev
  split at ev
  · cases ev
  · rename_i b ρ1 e1
    cases ev
    exact ⟨P, F, ρ, b, _, R, e1, fun H1 F1 l1 R1 => k H1 F1 l1 R1⟩
theorem PW.imp {t t' : TT} (h : PW X e t) (i : ∀ σ H Q, t' σ H Q → t σ H Q) : PW X e t' := ⟨fun whole pins s σ H Q I q => h.run whole pins s σ H Q I (i σ H Q q)⟩
theorem pw_all {pos : Pos} : ∀ {es : List Expr} {ts : List MT} {t : MT}, Paired (fun e t => PT X e (rdT T B t)) es ts → andAllT tAnd ts = some t → PW X (.BoolOp .And es pos) (rdT T B t)
  | _, _, _, .nil, h => by cases h
  | [e], [t'], _, .cons h .nil, q => by cases q; exact pw_and1 h
  | e :: e2 :: es, t1 :: t2 :: ts, t, .cons h r, q => by
    have q : (andAllT tAnd (t2 :: ts)).map (tAnd t1) = some t := q
    cases q2 : andAllT tAnd (t2 :: ts) with
    | none => rw [q2] at q; cases q
    | some t3 =>
      rw [q2] at q
      cases q
      refine PW.imp (pw_and h (pw_all r q2)) fun σ H Q z => ?_
      obtain ⟨P, F, ρ, k, ρ', R, ev, z⟩ := z
      unfold tAnd at ev
      split at ev
      · cases ev
      · rename_i ρ1 e1
        cases ev
        exact ⟨P, F, ρ, false, _, R, e1, fun H1 F1 l1 R1 => iteF <| z H1 F1 l1 R1⟩
      · rename_i ρ1 e1
        exact ⟨P, F, ρ, true, ρ1, R, e1, fun H1 F1 l1 R1 => iteT <| ⟨P, F1, ρ1, k, ρ', R1, ev, fun H2 F2 l2 R2 => z H2 F2 (l1.trans l2) R2⟩⟩
theorem pw_any {pos : Pos} : ∀ {es : List Expr} {ts : List MT} {t : MT}, Paired (fun e t => PT X e (rdT T B t)) es ts → andAllT tOr ts = some t → PW X (.BoolOp .Or es pos) (rdT T B t)
  | _, _, _, .nil, h => by cases h
  | [e], [t'], _, .cons h .nil, q => by cases q; exact pw_or1 h
  | e :: e2 :: es, t1 :: t2 :: ts, t, .cons h r, q => by
    have q : (andAllT tOr (t2 :: ts)).map (tOr t1) = some t := q
    cases q2 : andAllT tOr (t2 :: ts) with
    | none => rw [q2] at q; cases q
    | some t3 =>
      rw [q2] at q
      cases q
      refine PW.imp (pw_or h (pw_any r q2)) fun σ H Q z => ?_
      obtain ⟨P, F, ρ, k, ρ', R, ev, z⟩ := z
      unfold tOr at ev
      split at ev
      · cases ev
      · rename_i ρ1 e1
        cases ev
        exact ⟨P, F, ρ, true, _, R, e1, fun H1 F1 l1 R1 => iteT <| z H1 F1 l1 R1⟩
      · rename_i ρ1 e1
        exact ⟨P, F, ρ, false, ρ1, R, e1, fun H1 F1 l1 R1 => iteF <| ⟨P, F1, ρ1, k, ρ', R1, ev, fun H2 F2 l2 R2 => z H2 F2 (l1.trans l2) R2⟩⟩
theorem pe_all {pos : Pos} : ∀ {es : List Expr} {ts : List ME} {t : ME}, Paired (fun e t => PE X e (rdE T B t)) es ts → andAll dAnd ts = some t → PE X (.BoolOp .And es pos) (rdE T B t)
  | _, _, _, .nil, h => by cases h
  | [e], [t'], _, .cons h .nil, q => by cases q; exact ⟨fun pins s σ H Q I z => h.run pins s σ H Q I z⟩
  | e :: e2 :: es, t1 :: t2 :: ts, t, .cons h r, q => by
    have q : (andAll dAnd (t2 :: ts)).map (dAnd t1) = some t := q
    cases q2 : andAll dAnd (t2 :: ts) with
    | none => rw [q2] at q; cases q
    | some t3 =>
      rw [q2] at q
      cases q
      refine PE.imp (pe_andT h (pe_all r q2)) fun σ H Q z => ?_
      obtain ⟨P, F, ρ, rr, ρ', R, ev, z⟩ := z
      unfold dAnd at ev
      split at ev
      · cases ev
      · rename_i ra ρ1 e1
        split at ev
        · cases ev
        · rename_i d e2
          split at ev
          · cases ev
          · rename_i e3
            cases ev
            exact ⟨P, F, ρ, _, _, R, e1, fun v H1 F1 l1 R1 q1 => ⟨false, tru_pk R1.fh (look_pk R1 q1 e2) e3, iteF <| z v H1 F1 l1 R1 q1⟩⟩
          · rename_i e3
            exact ⟨P, F, ρ, ra, ρ1, R, e1, fun v H1 F1 l1 R1 q1 => ⟨true, tru_pk R1.fh (look_pk R1 q1 e2) e3, iteT <| ⟨P, F1, ρ1, rr, ρ', R1, ev, fun w H2 F2 l2 R2 q2 => z w H2 F2 (l1.trans l2) R2 q2⟩⟩⟩
theorem pe_any {pos : Pos} : ∀ {es : List Expr} {ts : List ME} {t : ME}, Paired (fun e t => PE X e (rdE T B t)) es ts → andAll dOr ts = some t → PE X (.BoolOp .Or es pos) (rdE T B t)
  | _, _, _, .nil, h => by cases h
  | [e], [t'], _, .cons h .nil, q => by cases q; exact ⟨fun pins s σ H Q I z => h.run pins s σ H Q I z⟩
  | e :: e2 :: es, t1 :: t2 :: ts, t, .cons h r, q => by
    have q : (andAll dOr (t2 :: ts)).map (dOr t1) = some t := q
    cases q2 : andAll dOr (t2 :: ts) with
    | none => rw [q2] at q; cases q
    | some t3 =>
      rw [q2] at q
      cases q
      refine PE.imp (pe_orT h (pe_any r q2)) fun σ H Q z => ?_
      obtain ⟨P, F, ρ, rr, ρ', R, ev, z⟩ := z
      unfold dOr at ev
      split at ev
      · cases ev
      · rename_i ra ρ1 e1
        split at ev
        · cases ev
        · rename_i d e2
          split at ev
          · cases ev
          · rename_i e3
            cases ev
            exact ⟨P, F, ρ, _, _, R, e1, fun v H1 F1 l1 R1 q1 => ⟨true, tru_pk R1.fh (look_pk R1 q1 e2) e3, iteT <| z v H1 F1 l1 R1 q1⟩⟩
          · rename_i e3
            exact ⟨P, F, ρ, ra, ρ1, R, e1, fun v H1 F1 l1 R1 q1 => ⟨false, tru_pk R1.fh (look_pk R1 q1 e2) e3, iteF <| ⟨P, F1, ρ1, rr, ρ', R1, ev, fun w H2 F2 l2 R2 q2 => z w H2 F2 (l1.trans l2) R2 q2⟩⟩⟩
theorem pe_dIf {tc : MT} (hc : PT X c (rdT T B tc)) (ha : PE X a (rdE T B da)) (hb : PE X b (rdE T B db)) : PE X (.IfExp c a b pos) (rdE T B (dIf tc da db)) := PE.imp (pe_ifExp hc ha hb) fun σ H Q z => by
  obtain ⟨P, F, ρ, rr, ρ', R, ev, z⟩ := z
  unfold dIf at ev
  split at ev
  · cases ev
  · rename_i ρ1 e1
    exact ⟨P, F, ρ, true, ρ1, R, e1, fun H1 F1 l1 R1 => iteT <| ⟨P, F1, ρ1, rr, ρ', R1, ev, fun w H2 F2 l2 R2 q2 => z w H2 F2 (l1.trans l2) R2 q2⟩⟩
  · rename_i ρ1 e1
    exact ⟨P, F, ρ, false, ρ1, R, e1, fun H1 F1 l1 R1 => iteF <| ⟨P, F1, ρ1, rr, ρ', R1, ev, fun w H2 F2 l2 R2 q2 => z w H2 F2 (l1.trans l2) R2 q2⟩⟩

/-! comparisons, as values and as tests -/
def Both (X : Cx) (T : TL) (B : Option Addr) (e : Expr) (den : ME) : Prop := ∃ t, PE X e t ∧ PT X e (tTest t) ∧ ∀ σ H Q, rdE T B den σ H Q → t σ H Q
theorem Both.pe {den : ME} (h : Both X T B e den) : PE X e (rdE T B den) := let ⟨_, h1, _, h3⟩ := h; PE.imp h1 h3
theorem Both.pt {den : ME} (h : Both X T B e den) : PT X e (rdT T B (tBool den)) := by
  obtain ⟨t, h1, h2, h3⟩ := h
  refine PT.imp h2 fun σ H Q z => h3 σ H _ ?_
  obtain ⟨P, F, ρ, k, ρ', R, ev, z⟩ := z
  unfold tBool at ev
  split at ev
  · rename_i b ρ1 e1
    cases ev
    exact ⟨P, F, ρ, _, _, R, e1, fun v H1 F1 l1 R1 q1 => ⟨k, by cases q1; rfl, z H1 F1 l1 R1⟩⟩
  · cases ev
theorem both_cmp (hu : X.A.units + 65 < cLine) (o : CO) (hm : behindInMarks (opC o) b = false) (ha : PE X a (rdE T B da)) (hb : PE X b (rdE T B db)) : Both X T B (.Compare a [opC o] [b] pos) (dCmp o da db) :=
  ⟨_, pe_cmpR (op_C hu o) ha hb hm, pt_cmpR (op_C hu o) ha hb hm, fun σ H Q h => rd_op2 (sv_cmp o) σ H Q h⟩
theorem mark_of {o : CmpOp} {co : CO} (h : cmpOp o = some co) : o = opC co ∧ ∀ b, behindInMarks o b = false := by
  cases o <;> cases h <;> exact ⟨rfl, fun b => nomark b⟩
theorem both_isN {j p} (ha : PE X a (rdE T B da)) : Both X T B (.Compare a [.Is] [.Constant .none j p] pos) (dOp1 (fIsN false) da) :=
  ⟨_, pe_cmpR op_isN ha pe_non (nomark _), pt_cmpR op_isN ha pe_non (nomark _), fun σ H Q h => by
    have h2 := rd_op1 (sv_isN false) σ H Q h
    obtain ⟨P, F, ρ, r, ρ', R, ev, k⟩ := h2
    exact ⟨P, F, ρ, r, ρ', R, ev, fun v H1 F1 l1 R1 q1 => ⟨rfl, k v H1 F1 l1 R1 q1⟩⟩⟩
theorem both_notN {j p} (ha : PE X a (rdE T B da)) : Both X T B (.Compare a [.IsNot] [.Constant .none j p] pos) (dOp1 (fIsN true) da) :=
  ⟨_, pe_cmpR op_notN ha pe_non (nomark _), pt_cmpR op_notN ha pe_non (nomark _), fun σ H Q h => by
    have h2 := rd_op1 (sv_isN true) σ H Q h
    obtain ⟨P, F, ρ, r, ρ', R, ev, k⟩ := h2
    exact ⟨P, F, ρ, r, ρ', R, ev, fun v H1 F1 l1 R1 q1 => ⟨rfl, k v H1 F1 l1 R1 q1⟩⟩⟩
theorem both_isB {j p} {i : Bool} (ha : PE X a (rdE T B da)) : Both X T B (.Compare a [.Is] [.Constant (.bool i) j p] pos) (dOp1 (fIsB false i) da) :=
  ⟨_, pe_cmpR op_isBl ha pe_bl (nomark _), pt_cmpR op_isBl ha pe_bl (nomark _), fun σ H Q h => by
    have h2 := rd_op1 (sv_isB false i) σ H Q h
    obtain ⟨P, F, ρ, r, ρ', R, ev, k⟩ := h2
    exact ⟨P, F, ρ, r, ρ', R, ev, fun v H1 F1 l1 R1 q1 => by
      obtain ⟨z, e, q⟩ := k v H1 F1 l1 R1 q1
      exact ⟨z, i, e, rfl, q⟩⟩⟩
theorem both_notB {j p} {i : Bool} (ha : PE X a (rdE T B da)) : Both X T B (.Compare a [.IsNot] [.Constant (.bool i) j p] pos) (dOp1 (fIsB true i) da) :=
  ⟨_, pe_cmpR op_notBl ha pe_bl (nomark _), pt_cmpR op_notBl ha pe_bl (nomark _), fun σ H Q h => by
    have h2 := rd_op1 (sv_isB true i) σ H Q h
    obtain ⟨P, F, ρ, r, ρ', R, ev, k⟩ := h2
    exact ⟨P, F, ρ, r, ρ', R, ev, fun v H1 F1 l1 R1 q1 => by
      obtain ⟨z, e, q⟩ := k v H1 F1 l1 R1 q1
      exact ⟨z, i, e, rfl, q⟩⟩⟩
theorem chain_some {o o' : CO} {ρ ρ' : Env} {r : R} (h : dChain o o' da db dc ρ = some (r, ρ')) : ∃ ra ρ1 rb ρ2 x y, da ρ = some (ra, ρ1) ∧ db ρ1 = some (rb, ρ2) ∧ look ra ρ2 = some x ∧ look rb ρ2 = some y ∧
    ((fCmp o x y = some false ∧ r = .val (.bool false) ∧ ρ' = ρ2) ∨ (fCmp o x y = some true ∧ ∃ rc y' z k, dc ρ2 = some (rc, ρ') ∧ look rb ρ' = some y' ∧ look rc ρ' = some z ∧ fCmp o' y' z = some k ∧ r = .val (.bool k))) := by
  unfold dChain at h
  split at h
  · cases h
  · rename_i ra ρ1 e1
    split at h
    · cases h
    · rename_i rb ρ2 e2
      split at h
      · rename_i x y e3 e4
        split at h
        · cases h
        · rename_i e5
          cases h
          exact ⟨ra, ρ1, rb, _, x, y, e1, e2, e3, e4, .inl ⟨e5, rfl, rfl⟩⟩
        · rename_i e5
          split at h
          · cases h
          · rename_i rc ρ3 e6
            split at h
            · rename_i y' z e7 e8
              split at h
              · cases h
              · rename_i k e9
                cases h
                exact ⟨ra, ρ1, rb, ρ2, x, y, e1, e2, e3, e4, .inr ⟨e5, rc, y', z, k, e6, e7, e8, e9, rfl⟩⟩
            · cases h
      · cases h
theorem both_chain (hu : X.A.units + 65 < cLine) {o o' : CmpOp} {k k' : CO} (ho : cmpOp o = some k) (ho' : cmpOp o' = some k') (ha : PE X a (rdE T B da)) (hb : PE X b (rdE T B db)) (hc : PE X c (rdE T B dc)) :
    Both X T B (.Compare a [o, o'] [b, c] pos) (dChain k k' da db dc) := by
  obtain ⟨rfl, m1⟩ := mark_of ho
  obtain ⟨rfl, m2⟩ := mark_of ho'
  have hm : lastMarks [opC k, opC k'] [b, c] = false := by
    have e : lastMarks [opC k, opC k'] [b, c] = behindInMarks (opC k') c := rfl
    rw [e]; exact m2 c
  refine ⟨_, pe_chain (op_C hu k) (op_C hu k') ha hb hc hm, pt_chain (op_C hu k) (op_C hu k') ha hb hc hm, fun σ H Q h => ?_⟩
  obtain ⟨P, F, ρ, r, ρ', R, ev, q⟩ := h
  obtain ⟨ra, ρ1, rb, ρ2, x, y, e1, e2, e3, e4, rest⟩ := chain_some ev
  refine ⟨P, F, ρ, ra, ρ1, R, e1, fun va H1 F1 l1 R1 q1 => ?_⟩
  refine ⟨LH.pin P H1 ra va, F1, ρ1, rb, ρ2, R1.pin q1, e2, fun vb H2 F2 l2 R2 q2 => ?_⟩
  have sb : Sub P (LH.pin P H1 ra va) := pin_sub R1
  have q1' := q1.keep R1 R2 l2
  have px := look_pk (R2.less sb) q1' e3
  have py := look_pk R2 q2 e4
  rcases rest with ⟨e5, rfl, rfl⟩ | ⟨e5, rc, y', z, kk, e6, e7, e8, e9, rfl⟩
  · exact cmp_ok k R2 px py e5 ⟨false, rfl, iteF <| q _ H2 F2 (l1.trans (l2.less sb)) (R2.less sb) (.bl _)⟩
  · refine cmp_ok k R2 px py e5 ⟨true, rfl, ?_⟩
    rw [if_pos rfl]
    refine ⟨LH.pin (LH.pin P H1 ra va) H2 rb vb, F2, ρ2, rc, ρ', R2.pin q2, e6, fun vc H3 F3 l3 R3 q3 => ?_⟩
    have sb2 : Sub (LH.pin P H1 ra va) (LH.pin (LH.pin P H1 ra va) H2 rb vb) := pin_sub R2
    have q2' := q2.keep R2 R3 l3
    exact cmp_ok k' R3 (look_pk (R3.less sb2) q2' e7) (look_pk R3 q3 e8) e9 (q _ H3 F3 ((l1.trans (l2.less sb)).trans ((l3.less sb2).less sb)) ((R3.less sb2).less sb) (.bl _))
end
end LH
end

section
set_option Elab.async false
set_option linter.all false
set_option maxRecDepth 100000
set_option maxHeartbeats 1000000
/-! Items, slices, calls. -/
namespace LH
open PySem PySem.Spec L2
section
variable {X : Cx} {T : TL} {B : Option Addr} {a b c e : Expr} {da db dc : ME} {pos : Pos}

theorem lookO_data {P F H : Hp} {ρ : Env} {σ : St} {r : R} {v : V} {x : OV} (R : Rel T B P F H ρ σ) (q : RepR P F H ρ σ r v) (h : lookO r ρ = some x) : ∃ d, x = .d d ∧ look r ρ = some d := by
  cases r with
  | val d => cases h; exact ⟨_, rfl, rfl⟩
  | tmp xs => cases h; exact ⟨_, rfl, rfl⟩
  | tdc kvs => cases h
  | slot i =>
    have h : (match get ρ i with
      | some (.dc kvs) => some (OV.dc kvs)
      | _ => (look (.slot i) ρ).map .d) = some x := h
    cases g : get ρ i with
    | none =>
      rw [g] at h
      cases e : look (.slot i) ρ with
      | none => rw [e] at h; cases h
      | some d => rw [e] at h; cases h; exact ⟨d, rfl, rfl⟩
    | some sv =>
      rw [g] at h
      cases sv with
      | dc kvs => obtain ⟨w, h1, b, h2, h3, _⟩ := R.ent i _ g; exact h3.elim
      | val d' =>
        cases e : look (.slot i) ρ with
        | none => rw [e] at h; cases h
        | some d => rw [e] at h; cases h; exact ⟨d, rfl, rfl⟩
      | own d' =>
        cases e : look (.slot i) ρ with
        | none => rw [e] at h; cases h
        | some d => rw [e] at h; cases h; exact ⟨d, rfl, rfl⟩
      | io d' =>
        cases e : look (.slot i) ρ with
        | none => rw [e] at h; cases h
        | some d => rw [e] at h; cases h; exact ⟨d, rfl, rfl⟩
def notSlice : Expr → Bool
  | .Slice _ _ _ _ => false
  | _ => true
theorem plainIx {b : Expr} (h : notSlice b = true) : PlainIx b := by
  intro o i
  cases b with
  | Slice _ _ _ _ => cases h
  | _ => rfl
theorem pe_dIx (hs : notSlice b = true) (ha : PE X a (rdE T B da)) (hb : PE X b (rdE T B db)) : PE X (.Subscript a b pos) (rdE T B (dIx da db)) := PE.imp (pe_ix ix_seq ha hb (plainIx hs)) fun σ H Q h => by
  obtain ⟨P, F, ρ, r, ρ', R, ev, k⟩ := h
  unfold dIx dOpO at ev
  split at ev
  · cases ev
  · rename_i ra ρ1 e1
    split at ev
    · cases ev
    · rename_i rb ρ2 e2
      split at ev
      · rename_i x y e3 e4
        split at ev
        · cases ev
        · rename_i r' e5
          cases ev
          refine ⟨P, F, ρ, ra, ρ1, R, e1, fun va H1 F1 l1 R1 q1 => ?_⟩
          refine ⟨LH.pin P H1 ra va, F1, ρ1, rb, _, R1.pin q1, e2, fun vb H2 F2 l2 R2 q2 => ?_⟩
          have sb : Sub P (LH.pin P H1 ra va) := pin_sub R1
          have q1' := q1.keep R1 R2 l2
          obtain ⟨d, rfl, e6⟩ := lookO_data (R2.less sb) q1' e3
          refine sv_ix T B P F2 H2 _ σ d y va vb r Q (R2.less sb) (look_pk (R2.less sb) q1' e6) (look_pk (R2.less sb) ?_ e4) e5 fun v H' F' l R' q => ?_
          · cases rb with
            | val d => exact q2
            | slot i => exact q2
            | tdc kvs => obtain ⟨a, _, h, _⟩ := q2; exact h.elim
            | tmp xs =>
              obtain ⟨a, vs, h1, h2, h3, h4, h5, h6⟩ := q2
              refine ⟨a, vs, h1, h2, h3, h4, ?_, h6⟩
              cases e : P a with
              | none => rfl
              | some o => rw [sb a o e] at h5; cases h5
          · exact k v H' F' ((l1.trans (l2.less sb)).trans l) R' q
      · cases ev
/-- slices -/
def rdO (T : TL) (B : Option Addr) (e : Option ME) : TO := fun σ H Q => ∃ P F ρ o ρ', Rel T B P F H ρ σ ∧ dPart e ρ = some (o, ρ') ∧ ∀ H' F', Le P F F' → Rel T B P F' H' ρ' σ → Q o H'
theorem PO.imp {e : Option Expr} {t t' : TO} (h : PO X e t) (i : ∀ σ H Q, t' σ H Q → t σ H Q) : PO X e t' := ⟨fun pins s σ H Q I q => h.run pins s σ H Q I (i σ H Q q)⟩
theorem po_dNone : PO X none (rdO T B none) := PO.imp po_none fun σ H Q h => by
  obtain ⟨P, F, ρ, o, ρ', R, ev, k⟩ := h
  cases ev
  exact k H F (Le.refl _ _) R
theorem po_dSome (ha : PE X a (rdE T B da)) : PO X (some a) (rdO T B (some da)) := PO.imp (po_some ha) fun σ H Q h => by
  obtain ⟨P, F, ρ, o, ρ', R, ev, k⟩ := h
  have ev : (match da ρ with
    | some (.val (.int i), ρ1) => some (some i, ρ1)
    | _ => none) = some (o, ρ') := ev
  split at ev
  · rename_i i ρ1 e1
    cases ev
    exact ⟨P, F, ρ, _, _, R, e1, fun v H1 F1 l1 R1 q1 => ⟨i, by cases q1; rfl, k H1 F1 l1 R1⟩⟩
  · cases ev
theorem pe_dCut {lo hi : Option Expr} {dl dh : Option ME} {p2 : Pos} (ha : PE X a (rdE T B da)) (hl : PO X lo (rdO T B dl)) (hh : PO X hi (rdO T B dh)) : PE X (.Subscript a (.Slice lo hi none p2) pos) (rdE T B (dCut da dl dh)) :=
  PE.imp (pe_slice sl_both ha hl hh) fun σ H Q h => by
    obtain ⟨P, F, ρ, r, ρ', R, ev, k⟩ := h
    unfold dCut at ev
    split at ev
    · cases ev
    · rename_i ra ρ1 e1
      split at ev
      · cases ev
      · rename_i l ρ2 e2
        split at ev
        · cases ev
        · rename_i u ρ3 e3
          split at ev
          · cases ev
          · rename_i x e4
            split at ev
            · cases ev
            · rename_i r' e5
              cases ev
              refine ⟨P, F, ρ, ra, ρ1, R, e1, fun va H1 F1 l1 R1 q1 => ?_⟩
              have sb : Sub P (LH.pin P H1 ra va) := pin_sub R1
              refine ⟨LH.pin P H1 ra va, F1, ρ1, l, ρ2, R1.pin q1, e2, fun H2 F2 l2 R2 => ?_⟩
              refine ⟨LH.pin P H1 ra va, F2, ρ2, u, _, R2, e3, fun H3 F3 l3 R3 => ?_⟩
              have q3 := q1.keep R1 R3 (l2.trans l3)
              exact sv_cut l u T B P F3 H3 _ σ x va r Q (R3.less sb) (look_pk (R3.less sb) q3 e4) e5 fun v H' F' l' R' q => k v H' F' ((l1.trans ((l2.trans l3).less sb)).trans l') R' q
/-! small built-ins by name -/
theorem pe_call1 {f : Value} {id : String} {rr : V → Hp → VK → Prop} {fd : D → Option R} {x : Str} {p : Pos} (hf : ∀ {e : Expr} {es : List Expr} {t : TA} {r : List V → Hp → VK → Prop}, CallR X f r → PA X (e :: es) t → starEach (e :: es) X.env = (false, eval e X.env) :: starEach es X.env → (backTo pos (starEach es X.env)).any (·.1) = false →
    PE X (.Call (.Name x p) (e :: es) [] pos) (tCB r t)) (cr : CallR X f (fun xs H Q => ∃ v, xs = [v] ∧ rr v H Q)) (s : Serves1 rr fd) (hst : starEach [a] X.env = (false, eval a X.env) :: starEach [] X.env) (ha : PE X a (rdE T B da)) : PE X (.Call (.Name x p) [a] [] pos) (rdE T B (dOp1 fd da)) :=
  PE.imp (hf cr (pa_cons ha pa_nil hst) hst rfl) fun σ H Q h => by
    have h2 := rd_op1 s σ H Q h
    obtain ⟨P, F, ρ, r, ρ', R, ev, k⟩ := h2
    exact ⟨P, F, ρ, r, ρ', R, ev, fun v H1 F1 l1 R1 q1 => ⟨v, rfl, k v H1 F1 l1 R1 q1⟩⟩

/-! ### user calls -/
def allH (H : Hp) : Hp := fun a => match H a with
  | some (.tbl _) => none
  | o => o
theorem allH_some {H : Hp} {a : Addr} {o : HO} (h : H a = some o) (n : ∀ ps, o ≠ .tbl ps) : allH H a = some o := by
  unfold allH
  rw [h]
  cases o <;> first | rfl | exact absurd rfl (n _)
theorem allH_of {H : Hp} {a : Addr} {o : HO} (h : allH H a = some o) : H a = some o ∧ ∀ ps, o ≠ .tbl ps := by
  unfold allH at h
  split at h
  · cases h
  · rename_i n
    exact ⟨h, fun ps e => n ps (by rw [h, e])⟩
theorem allH_none {H : Hp} {a : Addr} (h : H a = none) : allH H a = none := by unfold allH; rw [h]
def noSlot : R → Prop
  | .slot _ => False
  | _ => True
/-- the promise of a def that does sem -/
def spP (T : TL) (sem : List D → Option (R × List D)) : Sp := fun vs H Q _ => ∃ P F ds r o, Rel T none P F H [] [] ∧ RpL F vs ds ∧ sem ds = some (r, o) ∧ noSlot r ∧
  ∀ v H' F', Le P F F' → Rel T none P F' H' [] [] → RepR P F' H' [] [] r v → Q v H'
/-- of a def that changes the list it is handed first -/
def spIO (T : TL) (sem : List D → Option (R × List D)) : Sp := fun vs H Q _ => ∃ P F a us xs vr ds r ys, vs = .ref a :: vr ∧ H a = some (.lst us) ∧ RpL F us xs ∧ F a = none ∧ P a = none ∧ Rel T none P F H [] [] ∧ RpL F vr ds ∧ sem (.list xs :: ds) = some (r, ys) ∧ noSlot r ∧
  ∀ v H' F' us', Le P F F' → Rel T none P F' H' [] [] → H' a = some (.lst us') → RpL F' us' ys → F' a = none → RepR (upd P a (.lst us')) F' H' [] [] r v → Q v H'
theorem nothing {i : Nat} {sv : SV} (g : get [] i = some sv) : False := by unfold get at g; simp at g
theorem Rel.bare {P F H : Hp} {ρ : Env} {σ : St} (R : Rel T B P F H ρ σ) : Rel T none (allH H) F H [] [] where
  fh := R.fh
  ph := fun a o e => (allH_of e).1
  len := rfl
  ent := fun i sv g => (nothing g).elim
  dist := fun i j sv sv' a g => (nothing g).elim
  tabs := R.tabs
  ptab := fun a o e => (allH_of e).2
  ftab := R.ftab
theorem Rel.allP {P F H : Hp} {ρ : Env} {σ : St} (R : Rel T B P F H ρ σ) : Sub P (allH H) := fun a o e => allH_some (R.ph a o e) (R.ptab a o e)
/-- what is frozen behind a call that lets none of the borrowed lists out -/
def noLists (F1 F' : Hp) : Hp := fun a => match F1 a with
  | some o => some o
  | none => match F' a with
    | some (.lst _) => none
    | o => o
theorem noLists_up {F1 F' : Hp} : Sub F1 (noLists F1 F') := fun a o e => by unfold noLists; rw [e]
theorem noLists_sub {F1 F' : Hp} (s : Sub F1 F') : Sub (noLists F1 F') F' := fun a o e => by
  unfold noLists at e
  split at e
  · rename_i u h; cases e; exact s _ _ h
  · split at e
    · cases e
    · exact e
theorem noLists_at {F1 F' : Hp} {a : Addr} {o : HO} (s : Sub F1 F') (h : F' a = some o) (n : ∀ xs, o ≠ .lst xs) : noLists F1 F' a = some o := by
  unfold noLists
  split
  · rename_i u hu
    rw [s _ _ hu] at h
    exact h
  · rw [h]
    cases o <;> first | rfl | exact absurd rfl (n _)
mutual
theorem Rp.noLst {F1 F' : Hp} (s : Sub F1 F') : ∀ {v : V} {d : D}, Rp F' v d → noLst d = true → Rp (noLists F1 F') v d
  | _, _, .non, _ => .non
  | _, _, .bl b, _ => .bl b
  | _, _, .int i, _ => .int i
  | _, _, .str x, _ => .str x
  | _, _, .lst _ _, h => by cases h
  | _, _, .tup h r, q => .tup (by
      rcases h with h | ⟨o, h⟩
      · exact .inl (noLists_at s h (fun xs z => by cases z))
      · exact .inr ⟨o, noLists_at s h (fun xs z => by cases z)⟩) (RpL.noLst s r q)
theorem RpL.noLst {F1 F' : Hp} (s : Sub F1 F') : ∀ {vs : List V} {ds : List D}, RpL F' vs ds → noLstL ds = true → RpL (noLists F1 F') vs ds
  | _, _, .nil, _ => .nil
  | _, _, .cons a r, h => by
    have h2 := Bool.and_eq_true_iff.mp (show (LH.noLst _ && noLstL _) = true from h)
    exact .cons (Rp.noLst s a h2.1) (RpL.noLst s r h2.2)
end
/-- the frame behind a call: nothing of it was touched -/
theorem Rel.after {P F F' H H' : Hp} {ρ : Env} {σ : St} (R : Rel T B P F H ρ σ) (s : Sub F F') (hh : Sub F' H') (hk : Sub (allH H) H') (nf : ∀ a, F a = none → H a ≠ none → (∀ o, H a = some o → ∃ xs, o = .lst xs) → F' a = none) (tb : TabsOk T F' H') (ft : ∀ a o, F' a = some o → ∀ ps, o ≠ .tbl ps) : Rel T B P F' H' ρ σ where
  fh := hh
  ph := fun a o e => hk a o (R.allP a o e)
  len := R.len
  ent := fun i sv g => by
    obtain ⟨w, h1, h2⟩ := R.ent i sv g
    refine ⟨w, h1, ?_⟩
    have kp : ∀ a vs, H a = some (.lst vs) → H' a = some (.lst vs) := fun a vs e => hk a _ (allH_some e (fun ps z => by cases z))
    have nn : ∀ a vs, H a = some (.lst vs) → F a = none → F' a = none := fun a vs e z => nf a z (by rw [e]; exact fun q => by cases q) fun o q => by rw [e] at q; cases q; exact ⟨_, rfl⟩
    cases sv with
    | val d => exact Rp.mono s h2
    | own xs => obtain ⟨b, vs, q1, q2, q3, q4, q5⟩ := h2; exact ⟨b, vs, q1, kp _ _ q2, q3.mono s, nn _ _ q2 q4, q5⟩
    | io xs => obtain ⟨b, vs, q1, q2, q3, q4, q5, q6⟩ := h2; exact ⟨b, vs, q1, kp _ _ q2, q3.mono s, nn _ _ q2 q4, q5, q6⟩
    | dc kvs => obtain ⟨b, q1, q2, _⟩ := h2; exact q2.elim
  dist := R.dist
  tabs := tb
  ptab := R.ptab
  ftab := ft
theorem rd_call {f : List D → Option (R × List D)} {es : List ME} {σ : St} {H : Hp} {Q : VK} {E : XK} (h : rdE T B (dCall f es) σ H Q) : tCall (spP T f) [] E (rdA T B es) σ H Q := by
  obtain ⟨P, F, ρ, r, ρ', R, ev, k⟩ := h
  unfold dCall at ev
  split at ev
  · cases ev
  · rename_i rs ρ1 e1
    split at ev
    · cases ev
    · rename_i ds ρ2 e2
      have fin : ∀ (o : List D), f ds = some (r, o) → noSlot r → ρ' = (if r.clean then ρ1 else ρ2) → tCall (spP T f) [] E (rdA T B es) σ H Q := fun o e3 ns eρ => by
        refine ⟨P, F, ρ, rs, ρ1, R, e1, fun vs H1 F1 l1 R1 q1 => ?_⟩
        obtain ⟨F2, l2, R2, rl, ho⟩ := shares_ok R1 q1 e2
        rw [List.append_nil]
        refine ⟨allH H1, F2, ds, r, o, R2.bare, rl, e3, ns, fun v H' F' l3 R3 q3 => ?_⟩
        have at3 : ∀ a vs, H1 a = some (.lst vs) → F' a = F2 a := fun a vs e => l3.at_ a (by rw [allH_some e (fun ps z => by cases z)]; exact fun z => by cases z)
        have pn : ∀ a, allH H1 a = none → P a = none := fun a z => by
          cases e : P a with
          | none => rfl
          | some o => rw [R1.allP a o e] at z; cases z
        by_cases hc : r.clean = true
        · rw [if_pos hc] at eρ
          subst eρ
          have s12 : Sub F1 F' := l2.up.trans l3.up
          have sN : Sub F1 (noLists F1 F') := noLists_up
          have R4 : Rel T B P (noLists F1 F') H' ρ' σ := by
            refine R1.after sN ((noLists_sub s12).trans R3.fh) R3.ph (fun a z1 z2 z3 => ?_) (R3.tabs.tr (fun c p ⟨ob, u, q1, q2⟩ => ⟨ob, u, noLists_at s12 q1 (fun xs z => by cases z), q2⟩) (fun c p z => z.mono (noLists_sub s12)) fun _ _ z => z) (fun a o e => R3.ftab a o (noLists_sub s12 a o e))
            cases e : H1 a with
            | none => exact absurd e z2
            | some o =>
              obtain ⟨xs, rfl⟩ := z3 o e
              have e' : H' a = some (.lst xs) := R3.ph a _ (allH_some e (fun ps z => by cases z))
              unfold noLists
              rw [z1]
              dsimp only
              cases e4 : F' a with
              | none => rfl
              | some u =>
                rw [R3.fh a u e4] at e'
                cases e'
                rfl
          refine k v H' (noLists F1 F') (l1.trans ⟨sN, fun a hp => ?_⟩) R4 ?_
          · unfold noLists
            cases e4 : F1 a with
            | some u => rfl
            | none =>
              dsimp only
              have hp3 : allH H1 a ≠ none := fun z => hp (pn a z)
              rw [l3.at_ a hp3, l2.at_ a hp, e4]
          · cases r with
            | val d => exact Rp.noLst s12 q3 hc
            | slot i => exact ns.elim
            | tdc kvs => cases hc
            | tmp xs =>
              obtain ⟨a, vs, h1, h2, h3, h4, h5, h6⟩ := q3
              refine ⟨a, vs, h1, h2, RpL.noLst s12 h3 hc, ?_, pn a h5, fun i sv g o e => ?_⟩
              · cases e : noLists F1 F' a with
                | none => rfl
                | some u => rw [noLists_sub s12 a u e] at h4; cases h4
              · obtain ⟨w, g1, g2⟩ := R1.ent i sv g
                rw [e] at g1
                cases g1
                cases sv with
                | val d => cases o
                | own ys => obtain ⟨b, ws, q1, q2, _⟩ := g2; cases q1; rw [allH_some q2 (fun ps z => by cases z)] at h5; cases h5
                | io ys => obtain ⟨b, ws, q1, q2, _⟩ := g2; cases q1; rw [allH_some q2 (fun ps z => by cases z)] at h5; cases h5
                | dc ys => obtain ⟨b, q1, q2, _⟩ := g2; exact q2.elim
        · rw [if_neg hc] at eρ
          subst eρ
          have R4 : Rel T B P F' H' ρ' σ := R2.after l3.up R3.fh R3.ph (fun a z1 z2 z3 => by
            cases e : H1 a with
            | none => exact absurd e z2
            | some o =>
              obtain ⟨xs, rfl⟩ := z3 o e
              rw [at3 a xs e]
              exact z1) R3.tabs R3.ftab
          refine k v H' F' ((l1.trans l2).trans ⟨l3.up, fun a hp => l3.at_ a fun z => hp (pn a z)⟩) R4 ?_
          cases r with
          | val d => exact q3
          | slot i => exact ns.elim
          | tdc kvs => obtain ⟨a, _, h, _⟩ := q3; exact h.elim
          | tmp xs =>
            obtain ⟨a, vs, h1, h2, h3, h4, h5, h6⟩ := q3
            refine ⟨a, vs, h1, h2, h3, h4, pn a h5, fun i sv g o e => ?_⟩
            obtain ⟨w, g1, g2⟩ := R2.ent i sv g
            rw [e] at g1
            cases g1
            cases sv with
            | val d => cases o
            | own ys => obtain ⟨b, ws, q1, q2, _⟩ := g2; cases q1; rw [allH_some q2 (fun ps z => by cases z)] at h5; cases h5
            | io ys => obtain ⟨b, ws, q1, q2, _⟩ := g2; cases q1; rw [allH_some q2 (fun ps z => by cases z)] at h5; cases h5
            | dc ys => obtain ⟨b, q1, q2, _⟩ := g2; exact q2.elim
      split at ev
      · cases ev
      · cases ev
      · rename_i r' o ns e3
        cases ev
        refine fin o e3 ?_ rfl
        cases r with
        | slot i => exact absurd rfl (ns i)
        | _ => trivial
end
end LH
end

section
set_option Elab.async false
set_option linter.all false
set_option maxRecDepth 100000
set_option maxHeartbeats 1000000
/-! Lists of the frame's own changed; calls that change a list. -/
namespace LH
open PySem PySem.Spec L2
section
variable {T : TL} {B : Option Addr} {P P1 F F1 F2 H H1 H2 : Hp} {ρ ρ1 ρ2 ρ' : Env} {σ : St} {r : R} {v : V}
/-- the list of a slot -/
structure OwnAt (F P H : Hp) (σ : St) (i : Nat) (xs : List D) (a : Addr) (vs : List V) : Prop where
  at_ : σ[i]? = some (some (.ref a))
  hp : H a = some (.lst vs)
  rl : RpL F vs xs
  fr : F a = none
  pr : P a = none
theorem Rel.ownAt (R : Rel T B P F H ρ σ) {i : Nat} {sv : SV} {xs : List D} (g : get ρ i = some sv) (e : sv = .own xs ∨ sv = .io xs) : ∃ a vs, OwnAt F P H σ i xs a vs ∧ (sv = .io xs → B = some a) := by
  obtain ⟨w, h1, h2⟩ := R.ent i sv g
  rcases e with rfl | rfl
  · obtain ⟨a, vs, rfl, q1, q2, q3, q4⟩ := h2
    exact ⟨a, vs, ⟨h1, q1, q2, q3, q4⟩, fun z => nomatch z⟩
  · obtain ⟨a, vs, rfl, q1, q2, q3, q4, q5⟩ := h2
    exact ⟨a, vs, ⟨h1, q1, q2, q3, q4⟩, fun _ => q5⟩
/-- it is changed -/
theorem Rel.write (R : Rel T B P F H ρ σ) {i : Nat} {sv sv' : SV} {xs xs' : List D} {a : Addr} {vs vs' : List V} (g : get ρ i = some sv) (o : OwnAt F P H σ i xs a vs) (rl : RpL F vs' xs')
    (e : (sv = .own xs ∧ sv' = .own xs') ∨ (sv = .io xs ∧ sv' = .io xs')) : Rel T B P F (upd H a (.lst vs')) (ρ.set i (some sv')) σ := by
  have lt := get_lt g
  have so : sv.isOwn = true := by rcases e with ⟨rfl, _⟩ | ⟨rfl, _⟩ <;> rfl
  have so' : sv'.isOwn = true := by rcases e with ⟨_, rfl⟩ | ⟨_, rfl⟩ <;> rfl
  have old : ∀ m sw, get (ρ.set i (some sv')) m = some sw → sw.isOwn = true → ∃ s0, get ρ m = some s0 ∧ s0.isOwn = true := fun m sw gm om => by
    by_cases hm : i = m
    · subst hm; exact ⟨sv, g, so⟩
    · rw [get_set_ne hm] at gm; exact ⟨sw, gm, om⟩
  refine ⟨fun b u q => ?_, fun b u q => ?_, by rw [List.length_set]; exact R.len, fun j sw gj => ?_, fun j k sw sw' b gj gk oj ok ej ek => ?_, R.tabs.heap fun p ps h1 => ?_, R.ptab, R.ftab⟩
  · rw [upd_ne]
    · exact R.fh b u q
    · rintro rfl; rw [o.fr] at q; cases q
  · rw [upd_ne]
    · exact R.ph b u q
    · rintro rfl; rw [o.pr] at q; cases q
  · by_cases hj : i = j
    · subst hj
      rw [get_set_self lt] at gj
      cases gj
      refine ⟨_, o.at_, ?_⟩
      rcases e with ⟨rfl, rfl⟩ | ⟨rfl, rfl⟩
      · exact ⟨a, vs', rfl, upd_same, rl, o.fr, o.pr⟩
      · obtain ⟨w, h1, h2⟩ := R.ent i _ g
        obtain ⟨b, ws, rfl, q1, q2, q3, q4, q5⟩ := h2
        rw [o.at_] at h1
        cases h1
        exact ⟨a, vs', rfl, upd_same, rl, o.fr, o.pr, q5⟩
    · rw [get_set_ne hj] at gj
      obtain ⟨w, h1, h2⟩ := R.ent j sw gj
      refine ⟨w, h1, ?_⟩
      have ne : ∀ b, w = .ref b → sw.isOwn = true → b ≠ a := fun b q ow z => by
        subst z; subst q
        exact hj (R.dist i j sv sw b g gj so ow o.at_ h1)
      cases sw with
      | val d => exact h2
      | own ys => obtain ⟨b, ws, q1, q2, q3, q4, q5⟩ := h2; exact ⟨b, ws, q1, by rw [upd_ne (ne b q1 rfl)]; exact q2, q3, q4, q5⟩
      | io ys => obtain ⟨b, ws, q1, q2, q3, q4, q5, q6⟩ := h2; exact ⟨b, ws, q1, by rw [upd_ne (ne b q1 rfl)]; exact q2, q3, q4, q5, q6⟩
      | dc ys => obtain ⟨b, q1, q2, _⟩ := h2; exact q2.elim
  · obtain ⟨s1, g1, o1⟩ := old j sw gj oj
    obtain ⟨s2, g2, o2⟩ := old k sw' gk ok
    exact R.dist j k s1 s2 b g1 g2 o1 o2 ej ek
  · rw [upd_ne]
    · exact h1
    · rintro rfl; rw [o.hp] at h1; cases h1
/-- what a frozen value is, is not changed -/
theorem OwnAt.keepP {i : Nat} {xs : List D} {a : Addr} {vs : List V} (o : OwnAt F P H σ i xs a vs) (b : Addr) (u : HO) (h : P b = some u) : b ≠ a := by
  rintro rfl; rw [o.pr] at h; cases h
end
section
variable {X : Cx} {T : TL} {B : Option Addr} {a b c e : Expr} {da db dc : ME} {pos : Pos}
/-! ### statements -/
def RepRet (P F H : Hp) (ρ : Env) (σ : St) (r : R) (v : V) : Prop := noSlot r ∧ RepR P F H [] [] r v ∧ ∀ i xs, get ρ i = some (.io xs) → (∃ ys, r = .tmp ys) → σ[i]? ≠ some (some v)
def endOf (P : Hp) (D : Ends) (fl : Fl) (ρ : Env) (F : Hp) (σ : St) (H : Hp) : Prop := match fl with
  | .nx => D.nx σ H
  | .br => D.bk σ H
  | .ct => D.ct σ H
  | .ret r => ∀ v, RepRet P F H ρ σ r v → D.rt v H
def rdS (T : TL) (B : Option Addr) (den : MS) : TS := fun D σ H => ∃ P F ρ fl ρ', Rel T B P F H ρ σ ∧ den ρ = some (fl, ρ') ∧
  ∀ σ' H' F', Le P F F' → Rel T B P F' H' ρ' σ' → endOf P D fl ρ' F' σ' H'
theorem PS.imp {st : Stmt} {t t' : TS} (h : PS X st t) (i : ∀ D σ H, t' D σ H → t D σ H) : PS X st t' := ⟨fun pins s σ H D I q => h.run pins s σ H D I (i D σ H q)⟩
theorem PSs.imp {st : List Stmt} {t t' : TS} (h : PSs X st t) (i : ∀ D σ H, t' D σ H → t D σ H) : PSs X st t' := ⟨fun pins s σ H D I q => h.run pins s σ H D I (i D σ H q)⟩

theorem tyL {K : PySem.W.Frag} {H : Hp} {a : Addr} {vs : List V} (h : H a = some (.lst vs)) : tyV K "list" (.ref a) H := .inl ⟨rfl, vs, .inl (.inl h)⟩
theorem s62 {i : Int} (h : small62 i = true) : -(2 ^ 62) ≤ i ∧ i < 2 ^ 62 := by
  unfold small62 at h
  simp only [Bool.and_eq_true, decide_eq_true_eq] at h
  omega
theorem ownL_some {ρ : Env} {i : Nat} (h : ownL ρ i = true) : ∃ xs, get ρ i = some (.own xs) := by
  unfold ownL at h
  split at h
  · rename_i xs g; exact ⟨xs, g⟩
  · cases h
def mRep : V → List V → Hp → VK → Prop := fun x vs H Q => ∃ l b xs zs, x = .ref l ∧ vs = [.ref b] ∧ H l = some (.lst xs) ∧ Rd H b (.lst zs) ∧ xs.length + zs.length ≤ sizeLine ∧ Q .non (upd H l (.lst (xs ++ zs)))
theorem mt_extendR : MtM X "list.extend" mRep := by
  intro pins s σ H x vs v us Q I rx rv h
  obtain ⟨l, b, xs, zs, e1, e2, hH, hB, hz, q⟩ := h
  subst e1; subst e2
  cases rx
  obtain ⟨u, eu, ru⟩ := rv.one
  subst eu
  cases ru
  obtain ⟨z, its, n, r, hl, e⟩ := I.lstM hH
  obtain ⟨z2, its2, n2, r2, e2⟩ := hB.ok I.hok
  have hl2 := r2.length
  have hsz : its.toArray.size + its2.toArray.size ≤ sizeLine := by
    rw [List.size_toArray, List.size_toArray, ← hl2, ← hl]; exact hz
  refine call_meets PySem.F.slot_list_extend ⟨_, e, rfl⟩ PySem.F.entry_list_extend (PySem.F.args_list_extend_2 _ _)
    (AutoSeq1.list_extend_list_list_0 l its.toArray n b its2.toArray n2 (fun q => by
      rw [notLongL hsz, Bool.and_false] at q
      cases q) (by rw [List.size_toArray]; omega) (by omega)) ⟨e, e2, ?_⟩
  exact ⟨.non, _, I.lset (its' := its ++ its2) hH e (by simp) (r.append r2) (by rw [List.length_append]; omega), rfl, q⟩
theorem ps_append {i : Nat} {x : Str} {p apos cpos : Pos} (hx : PE X (.Name x p) (tVar i)) (hl : (apos.endLine == cpos.line) = true) (hst : starEach [e] X.env = (false, eval e X.env) :: starEach [] X.env) (ha : PE X e (rdE T B da)) :
    PS X (.Expr (.Call (.Attribute (.Name x p) "append" apos) [e] [] cpos) pos) (rdS T B (sAppend i da)) := by
  refine PS.imp (ps_expr (pe_bm PySem.F.plainAttrs_list PySem.F.slot_list_append PySem.F.type_list_append mt_append hx (pa_cons ha pa_nil hst) (hline := hl) (hs := hst) (hfew := by rw [hst]; rfl) (hplain := rfl))) fun D σ H h => ?_
  obtain ⟨P, F, ρ, fl, ρ', R, ev, k⟩ := h
  unfold sAppend at ev
  split at ev
  · rename_i ho
    obtain ⟨xs0, g0⟩ := ownL_some ho
    obtain ⟨a0, vs0, o0, _⟩ := R.ownAt g0 (.inl rfl)
    split at ev
    · cases ev
    · rename_i r ρ1 e1
      split at ev
      · cases ev
      · rename_i d ρ2 e2
        split at ev
        · rename_i xs g
          split at ev
          · rename_i hz
            cases ev
            refine ⟨.ref a0, o0.at_, tyL o0.hp, P, F, ρ, r, ρ1, R, e1, fun v H1 F1 l1 R1 q1 => ?_⟩
            obtain ⟨F2, l2, R2, rp, _, _⟩ := share_ok R1 q1 e2
            obtain ⟨a, vs, o, _⟩ := R2.ownAt g (.inl rfl)
            have ea : a = a0 := by have := o.at_; rw [o0.at_] at this; cases this; rfl
            subst ea
            refine ⟨a, vs, v, rfl, rfl, o.hp, by rw [o.rl.length, ← lim]; exact hz, ?_⟩
            exact k σ _ F2 (l1.trans l2) (R2.write g o (o.rl.append (.cons rp .nil)) (.inl ⟨rfl, rfl⟩))
          · cases ev
        · cases ev
  · cases ev
theorem ps_extend {i : Nat} {x : Str} {p apos cpos : Pos} (hx : PE X (.Name x p) (tVar i)) (hl : (apos.endLine == cpos.line) = true) (hst : starEach [e] X.env = (false, eval e X.env) :: starEach [] X.env) (ha : PE X e (rdE T B da)) :
    PS X (.Expr (.Call (.Attribute (.Name x p) "extend" apos) [e] [] cpos) pos) (rdS T B (sExtend i da)) := by
  refine PS.imp (ps_expr (pe_bm PySem.F.plainAttrs_list PySem.F.slot_list_extend PySem.F.type_list_extend mt_extendR hx (pa_cons ha pa_nil hst) (hline := hl) (hs := hst) (hfew := by rw [hst]; rfl) (hplain := rfl))) fun D σ H h => ?_
  obtain ⟨P, F, ρ, fl, ρ', R, ev, k⟩ := h
  unfold sExtend at ev
  split at ev
  · rename_i ho
    obtain ⟨xs0, g0⟩ := ownL_some ho
    obtain ⟨a0, vs0, o0, _⟩ := R.ownAt g0 (.inl rfl)
    split at ev
    · cases ev
    · rename_i r ρ1 e1
      split at ev
      · rename_i ys e2
        split at ev
        · rename_i xs g
          split at ev
          · rename_i hz
            cases ev
            refine ⟨.ref a0, o0.at_, tyL o0.hp, P, F, ρ, r, ρ1, R, e1, fun v H1 F1 l1 R1 q1 => ?_⟩
            obtain ⟨a, vs, o, _⟩ := R1.ownAt g (.inl rfl)
            have ea : a = a0 := by have := o.at_; rw [o0.at_] at this; cases this; rfl
            subst ea
            obtain ⟨b, ws, rfl, h1, h2⟩ := (look_pk R1 q1 e2).list R1.fh
            refine ⟨a, b, vs, ws, rfl, rfl, o.hp, h1, by rw [o.rl.length, h2.length, ← lim]; exact hz, ?_⟩
            exact k σ _ F1 l1 (R1.write g o (o.rl.append h2) (.inl ⟨rfl, rfl⟩))
          · cases ev
        · cases ev
      · cases ev
  · cases ev
theorem pe_dPop0 {i : Nat} {x : Str} {p apos cpos : Pos} (hx : PE X (.Name x p) (tVar i)) (hl : (apos.endLine == cpos.line) = true) :
    PE X (.Call (.Attribute (.Name x p) "pop" apos) [] [] cpos) (rdE T B (dPop i none)) := by
  refine PE.imp (pe_bm0 PySem.F.plainAttrs_list PySem.F.slot_list_pop PySem.F.type_list_pop mt_pop hx (hline := hl)) fun σ H Q h => ?_
  obtain ⟨P, F, ρ, r, ρ', R, ev, k⟩ := h
  unfold dPop at ev
  split at ev
  · unfold dPart at ev
    dsimp only at ev
    split at ev
    · rename_i xs g
      split at ev
      · cases ev
      · rename_i j hj
        split at ev
        · cases ev
        · rename_i d hd
          rw [if_pos (by decide)] at ev
          cases ev
          obtain ⟨a, vs, o, _⟩ := R.ownAt g (.inl rfl)
          obtain ⟨y, hy, rp⟩ := o.rl.get hd
          have hj' : j = vs.length - 1 ∧ j < vs.length := by
            have h2 := L2.ixN_seq hj
            rw [o.rl.length]
            unfold L2.ixN at hj
            simp only [Option.getD_none] at hj
            rw [if_neg (by omega)] at hj
            split at hj
            · cases hj
              have := h2.2.1
              constructor <;> omega
            · cases hj
          refine ⟨.ref a, o.at_, tyL o.hp, a, vs, y, rfl, rfl, o.hp, by rw [← hj'.1]; exact hy, ?_⟩
          have ed : vs.dropLast = vs.eraseIdx j := by rw [hj'.1]; exact (List.eraseIdx_eq_dropLast (by omega)).symm
          rw [ed]
          exact k y _ F (Le.refl _ _) (R.write g o (o.rl.erase j) (.inl ⟨rfl, rfl⟩)) rp
    · cases ev
  · cases ev
theorem pe_dPop1 {i : Nat} {x : Str} {p apos cpos : Pos} (hx : PE X (.Name x p) (tVar i)) (hl : (apos.endLine == cpos.line) = true) (hst : starEach [e] X.env = (false, eval e X.env) :: starEach [] X.env) (ha : PE X e (rdE T B da)) :
    PE X (.Call (.Attribute (.Name x p) "pop" apos) [e] [] cpos) (rdE T B (dPop i (some da))) := by
  refine PE.imp (pe_bm PySem.F.plainAttrs_list PySem.F.slot_list_pop PySem.F.type_list_pop mt_popAt hx (pa_cons ha pa_nil hst) (hline := hl) (hs := hst) (hfew := by rw [hst]; rfl) (hplain := rfl)) fun σ H Q h => ?_
  obtain ⟨P, F, ρ, r, ρ', R, ev, k⟩ := h
  unfold dPop at ev
  split at ev
  · rename_i ho
    obtain ⟨xs0, g0⟩ := ownL_some ho
    obtain ⟨a0, vs0, o0, _⟩ := R.ownAt g0 (.inl rfl)
    split at ev
    · cases ev
    · rename_i kk ρ1 e1
      have e1 : (match da ρ with
        | some (.val (.int i), ρ1) => some (some i, ρ1)
        | _ => none) = some (kk, ρ1) := e1
      split at e1
      · rename_i n ρ2 e2
        cases e1
        split at ev
        · rename_i xs g
          split at ev
          · cases ev
          · rename_i j hj
            split at ev
            · cases ev
            · rename_i d hd
              split at ev
              · rename_i hs
                cases ev
                refine ⟨.ref a0, o0.at_, tyL o0.hp, P, F, ρ, _, _, R, e2, fun v H1 F1 l1 R1 q1 => ?_⟩
                cases q1
                obtain ⟨a, vs, o, _⟩ := R1.ownAt g (.inl rfl)
                have ea : a = a0 := by have := o.at_; rw [o0.at_] at this; cases this; rfl
                subst ea
                obtain ⟨y, hy, rp⟩ := o.rl.get hd
                obtain ⟨h1, h2, h3, h4⟩ := L2.ixN_seq hj
                simp only [Option.getD_some] at h1 h3 h4 hs
                have hs := s62 hs
                refine ⟨a, vs, n, j, y, rfl, rfl, o.hp, by omega, by omega, by rw [o.rl.length]; exact h1, hy, ?_⟩
                exact k y _ F1 l1 (R1.write g o (o.rl.erase j) (.inl ⟨rfl, rfl⟩)) rp
              · cases ev
        · cases ev
      · cases e1
  · cases ev
end
end LH
end

section
set_option Elab.async false
set_option linter.all false
set_option maxRecDepth 100000
set_option maxHeartbeats 1000000
/-! Stores. -/
namespace LH
open PySem PySem.Spec L2
section
variable {T : TL} {B : Option Addr} {P P1 F F1 F2 H H1 H2 : Hp} {ρ ρ1 ρ2 ρ' : Env} {σ : St} {r : R} {v : V}
/-- a slot of a tracked state set to something that is not the box -/
theorem Rel.store (R : Rel T B P F H ρ σ) {i : Nat} {sv : SV} (hi : i < ρ.length) (e : Ent B P F H sv v) (no : sv.isOwn = true → ∀ a, v = .ref a → NotOwned ρ σ a) :
    Rel T B P F H (ρ.set i (some sv)) (σ.set i (some v)) := by
  have hs : i < σ.length := by rw [← R.len]; exact hi
  refine ⟨R.fh, R.ph, by rw [List.length_set, List.length_set]; exact R.len, fun j sw gj => ?_, fun j k sw sw' b gj gk oj ok ej ek => ?_, R.tabs, R.ptab, R.ftab⟩
  · by_cases hj : i = j
    · subst hj
      rw [get_set_self hi] at gj
      cases gj
      exact ⟨v, by rw [List.getElem?_set_self hs], e⟩
    · rw [get_set_ne hj] at gj
      rw [List.getElem?_set_ne hj]
      exact R.ent j sw gj
  · have key : ∀ j sw, get (ρ.set i (some sv)) j = some sw → sw.isOwn = true → (σ.set i (some v))[j]? = some (some (.ref b)) → (j = i ∧ sw = sv ∧ v = .ref b) ∨ (j ≠ i ∧ get ρ j = some sw ∧ σ[j]? = some (some (.ref b))) := fun j sw gj oj ej => by
      by_cases hj : i = j
      · subst hj
        rw [get_set_self hi] at gj
        rw [List.getElem?_set_self hs] at ej
        cases gj
        cases ej
        exact .inl ⟨rfl, rfl, rfl⟩
      · rw [get_set_ne hj] at gj
        rw [List.getElem?_set_ne hj] at ej
        exact .inr ⟨fun z => hj z.symm, gj, ej⟩
    rcases key j sw gj oj ej with ⟨h1, h2, h3⟩ | ⟨h1, h2, h3⟩ <;> rcases key k sw' gk ok ek with ⟨g1, g2, g3⟩ | ⟨g1, g2, g3⟩
    · rw [h1, g1]
    · subst h2
      exact absurd g3 (no oj b h3 k sw' g2 ok)
    · subst g2
      exact absurd h3 (no ok b g3 j sw h2 oj)
    · exact R.dist j k sw sw' b h2 g2 oj ok h3 g3
/-- a slot forgotten -/
theorem Rel.wipe1 (R : Rel T B P F H ρ σ) (i : Nat) (o : Option V) : Rel T B P F H (ρ.set i none) (σ.set i o) := by
  have old : ∀ j sw, get (ρ.set i none) j = some sw → j ≠ i ∧ get ρ j = some sw := fun j sw g => by
    by_cases hj : i = j
    · subst hj
      have lt := get_lt g
      rw [List.length_set] at lt
      rw [get_set_self lt] at g
      cases g
    · rw [get_set_ne hj] at g
      exact ⟨fun z => hj z.symm, g⟩
  refine ⟨R.fh, R.ph, by rw [List.length_set, List.length_set]; exact R.len, fun j sw gj => ?_, fun j k sw sw' b gj gk oj ok ej ek => ?_, R.tabs, R.ptab, R.ftab⟩
  · obtain ⟨h1, h2⟩ := old j sw gj
    rw [List.getElem?_set_ne (fun z => h1 z.symm)]
    exact R.ent j sw h2
  · obtain ⟨h1, h2⟩ := old j sw gj
    obtain ⟨h3, h4⟩ := old k sw' gk
    rw [List.getElem?_set_ne (fun z => h1 z.symm)] at ej
    rw [List.getElem?_set_ne (fun z => h3 z.symm)] at ek
    exact R.dist j k sw sw' b h2 h4 oj ok ej ek
theorem Rel.wiped (R : Rel T B P F H ρ σ) : ∀ vs : List Nat, Rel T B P F H (wipeE ρ vs) (wipe σ vs)
  | [] => R
  | i :: is => (Rel.wiped R is).wipe1 i none
theorem put_ok (R : Rel T B P F H ρ σ) (q : RepR P F H ρ σ r v) {i : Nat} (h : put i r ρ = some ρ') : ∃ F', Le P F F' ∧ Rel T B P F' H ρ' (σ.set i (some v)) := by
  unfold put at h
  split at h
  · rename_i hc
    cases r with
    | val d => cases h; exact ⟨F, Le.refl _ _, R.store hc.1 (sv := .val d) q (fun z => by cases z)⟩
    | tmp xs =>
      cases h
      obtain ⟨a, vs, rfl, h1, h2, h3, h4, h5⟩ := q
      exact ⟨F, Le.refl _ _, R.store hc.1 (sv := .own xs) ⟨a, vs, rfl, h1, h2, h3, h4⟩ (fun _ b e => by cases e; exact h5)⟩
    | tdc kvs => obtain ⟨a, _, h, _⟩ := q; exact h.elim
    | slot j =>
      dsimp only at h
      split at h
      · cases h
      · rename_i d ρ1 e
        cases h
        obtain ⟨F', l, R', rp, _, _⟩ := share_ok R (r := .slot j) q e
        have hl : i < ρ1.length := by rw [R'.len, ← R.len]; exact hc.1
        exact ⟨F', l, R'.store hl (sv := .val d) rp (fun z => by cases z)⟩
  · cases h
/-! targets -/
/-- the slots a target stores to -/
def Off (ts : List Nat) (σ σ' : St) : Prop := σ'.length = σ.length ∧ ∀ i, i ∉ ts → σ'[i]? = σ[i]?
theorem Off.refl (ts : List Nat) (σ : St) : Off ts σ σ := ⟨rfl, fun _ _ => rfl⟩
theorem Off.trans {ts us : List Nat} {σ σ1 σ2 : St} (a : Off ts σ σ1) (b : Off us σ1 σ2) : Off (ts ++ us) σ σ2 := ⟨b.1.trans a.1, fun i h => by
  rw [List.mem_append, not_or] at h
  exact (b.2 i h.2).trans (a.2 i h.1)⟩
theorem Off.more {ts us : List Nat} {σ σ1 : St} (a : Off ts σ σ1) (s : ∀ i ∈ ts, i ∈ us) : Off us σ σ1 := ⟨a.1, fun i h => a.2 i fun z => h (s i z)⟩
theorem wipe_get {σ : St} : ∀ {vs : List Nat} (i : Nat), (wipe σ vs)[i]? = if i ∈ vs then σ[i]?.map fun _ => none else σ[i]?
  | [], i => rfl
  | v :: vs, i => by
    show ((wipe σ vs).set v none)[i]? = _
    have ih := @wipe_get σ vs i
    by_cases hi : v = i
    · subst hi
      rw [if_pos List.mem_cons_self]
      by_cases hl : v < σ.length
      · rw [List.getElem?_set_self (by rw [wipe_length]; exact hl), List.getElem?_eq_getElem hl]; rfl
      · rw [List.getElem?_eq_none (by rw [List.length_set, wipe_length]; omega), List.getElem?_eq_none (by omega)]; rfl
    · rw [List.getElem?_set_ne hi, ih]
      have : (i ∈ v :: vs) ↔ i ∈ vs := by rw [List.mem_cons]; exact ⟨fun h => h.resolve_left fun z => hi z.symm, .inr⟩
      by_cases hm : i ∈ vs
      · rw [if_pos hm, if_pos (this.mpr hm)]
      · rw [if_neg hm, if_neg (fun z => hm (this.mp z))]
theorem Off.wipe {ts vs : List Nat} {σ σ' : St} (o : Off ts σ σ') (s : ∀ i ∈ ts, i ∈ vs) : wipe σ' vs = wipe σ vs := by
  refine List.ext_getElem? fun i => ?_
  rw [wipe_get, wipe_get]
  by_cases hm : i ∈ vs
  · rw [if_pos hm, if_pos hm]
    by_cases hl : i < σ.length
    · rw [List.getElem?_eq_getElem hl, List.getElem?_eq_getElem (by rw [o.1]; exact hl)]; rfl
    · have := o.1
      rw [List.getElem?_eq_none (l := σ') (by omega), List.getElem?_eq_none (l := σ) (by omega)]
  · rw [if_neg hm, if_neg hm]
    exact o.2 i fun z => hm (s i z)
end
def rdG (T : TL) (B : Option Addr) (ts : List Nat) (den : MG) : TG := fun v σ H Q => ∃ P F ρ d ρ', Rel T B P F H ρ σ ∧ Rp F v d ∧ den d ρ = some ρ' ∧
  ∀ σ', Off ts σ σ' → Rel T B P F H ρ' σ' → Q σ' H
def rdGs (T : TL) (B : Option Addr) (ts : List Nat) (den : List MG) : TGs := fun vs σ H Q => ∃ P F ρ ds ρ', Rel T B P F H ρ σ ∧ RpL F vs ds ∧ gEach den ds ρ = some ρ' ∧
  ∀ σ', Off ts σ σ' → Rel T B P F H ρ' σ' → Q σ' H
theorem PG.imp {X : Cx} {e : Expr} {t t' : TG} (h : PG X e t) (i : ∀ v σ H Q, t' v σ H Q → t v σ H Q) : PG X e t' := ⟨fun pins s σ H v u Q I r q => h.run pins s σ H v u Q I r (i v σ H Q q)⟩
theorem PGs.imp {X : Cx} {e : List Expr} {t t' : TGs} (h : PGs X e t) (i : ∀ v σ H Q, t' v σ H Q → t v σ H Q) : PGs X e t' := ⟨fun pins s σ H v u Q I r q => h.run pins s σ H v u Q I r (i v σ H Q q)⟩
section
variable {X : Cx} {T : TL} {B : Option Addr} {a b c e : Expr} {da db dc : ME} {pos : Pos}
theorem pg_dName {i : Nat} {x : Str} (hN : X.N.Nodup) (hi : X.N[i]? = some x) (hx : Loc X.env.scope x) (hf : X.fn x = true ∨ X.env.scope.names.lookup x = some .local) : PG X (.Name x pos) (rdG T B [i] (gName i)) :=
  PG.imp (pg_name hN hi hx hf) fun v σ H Q h => by
    obtain ⟨P, F, ρ, d, ρ', R, rp, ev, k⟩ := h
    unfold gName at ev
    split at ev
    · rename_i hc
      cases ev
      refine k _ ⟨List.length_set .., fun j hj => ?_⟩ (R.store hc.1 (sv := .val d) rp (fun z => by cases z))
      rw [List.getElem?_set_ne (fun z => hj (by rw [z]; exact List.mem_cons_self))]
    · cases ev
theorem pgs_dNil : PGs X [] (rdGs T B [] []) := PGs.imp pgs_nil fun v σ H Q h => by
  obtain ⟨P, F, ρ, ds, ρ', R, rl, ev, k⟩ := h
  cases ds with
  | nil => cases ev; cases rl; exact ⟨rfl, k _ (Off.refl _ _) R⟩
  | cons d ds => cases ev
theorem pgs_dCons {es : List Expr} {ts us : List Nat} {g : MG} {gs : List MG} (h1 : PG X e (rdG T B ts g)) (h2 : PGs X es (rdGs T B us gs)) (hs : (assignEach (e :: es) X.env).map (·.2) = assign e X.env :: (assignEach es X.env).map (·.2)) :
    PGs X (e :: es) (rdGs T B (ts ++ us) (g :: gs)) := PGs.imp (pgs_cons h1 h2 hs) fun v σ H Q h => by
  obtain ⟨P, F, ρ, ds, ρ', R, rl, ev, k⟩ := h
  cases ds with
  | nil => cases ev
  | cons d ds =>
    cases rl with
    | cons rp rl =>
      have ev : (match g d ρ with
        | none => none
        | some ρ1 => gEach gs ds ρ1) = some ρ' := ev
      split at ev
      · cases ev
      · rename_i ρ1 e1
        exact ⟨_, _, rfl, P, F, ρ, d, ρ1, R, rp, e1, fun σ1 o1 R1 => ⟨P, F, ρ1, ds, ρ', R1, rl, ev, fun σ2 o2 R2 => k σ2 (o1.trans o2) R2⟩⟩
theorem gEach_len : ∀ {gs : List MG} {ds : List D} {ρ ρ' : Env}, gEach gs ds ρ = some ρ' → ds.length = gs.length
  | [], [], _, _, _ => rfl
  | [], _ :: _, _, _, h => by cases h
  | _ :: _, [], _, _, h => by cases h
  | g :: gs, d :: ds, ρ, ρ', h => by
    have h : (match g d ρ with
      | none => none
      | some ρ1 => gEach gs ds ρ1) = some ρ' := h
    split at h
    · cases h
    · simp [gEach_len h]
theorem pg_dTup {es : List Expr} {k : Nat} {ts : List Nat} {gs : List MG} (hc : X.calm = true) (h : PGs X es (rdGs T B ts gs)) (hn : (assignEach es X.env).length = gs.length) (hst : (assignEach es X.env).findIdx? (·.1) = none) :
    PG X (.Tuple es k pos) (rdG T B ts (gTup gs)) := PG.imp (pg_tup hc h hn hst) fun v σ H Q h => by
  obtain ⟨P, F, ρ, d, ρ', R, rp, ev, k⟩ := h
  cases rp with
  | tup h1 rl =>
    have ev : gEach gs _ ρ = some ρ' := ev
    exact ⟨_, _, rfl, .inl (Rd.sub R.fh h1), by rw [rl.length, gEach_len ev], P, F, ρ, _, ρ', R, rl, ev, k⟩
  | _ => cases ev
/-! statements -/
theorem ps_dSet {i : Nat} {x : Str} {pos' : Pos} (hN : X.N.Nodup) (hi : X.N[i]? = some x) (hx : Loc X.env.scope x) (ha : PE X e (rdE T B da)) (hs : swapsWith e (some (.Name x pos')) pos.line X.env = pure false) (hf : X.fn x = true ∨ X.env.scope.names.lookup x = some .local) :
    PS X (.Assign [.Name x pos'] e pos) (rdS T B (sAsg i da)) := PS.imp (ps_set hN hi hx ha hs hf) fun D σ H h => by
  obtain ⟨P, F, ρ, fl, ρ', R, ev, k⟩ := h
  unfold sAsg at ev
  split at ev
  · cases ev
  · rename_i r ρ1 e1
    split at ev
    · cases ev
    · rename_i ρ2 e2
      cases ev
      refine ⟨P, F, ρ, r, ρ1, R, e1, fun v H1 F1 l1 R1 q1 => ?_⟩
      obtain ⟨F2, l2, R2⟩ := put_ok R1 q1 e2
      exact k _ H1 F2 (l1.trans l2) R2
theorem ps_dAsg {ts : List Nat} {g : MG} {tg : Expr} (ha : PE X e (rdE T B da)) (hg : PG X tg (rdG T B ts g)) (hs : swapsWithSole [tg] e pos.line X.env = pure false) (hw : swappedStores [tg] e X.env = pure none)
    (h1 : (assignEach [tg] X.env).map (·.2) = [assign tg X.env]) : PS X (.Assign [tg] e pos) (rdS T B (sAsgG g da)) := PS.imp (ps_asg ha hg hs hw h1) fun D σ H h => by
  obtain ⟨P, F, ρ, fl, ρ', R, ev, k⟩ := h
  unfold sAsgG at ev
  split at ev
  · cases ev
  · rename_i r ρ1 e1
    split at ev
    · cases ev
    · rename_i d ρ2 e2
      split at ev
      · cases ev
      · rename_i ρ3 e3
        cases ev
        refine ⟨P, F, ρ, r, ρ1, R, e1, fun v H1 F1 l1 R1 q1 => ?_⟩
        obtain ⟨F2, l2, R2, rp, _, _⟩ := share_ok R1 q1 e2
        exact ⟨P, F2, ρ2, d, _, R2, rp, e3, fun σ3 _ R3 => k σ3 H1 F2 (l1.trans l2) R3⟩
theorem ps_dDrop (ha : PE X e (rdE T B da)) (hs : swapsWith e none pos.line X.env = pure false) : PS X (.Expr e pos) (rdS T B (sDrop da)) := PS.imp (ps_expr ha hs) fun D σ H h => by
  obtain ⟨P, F, ρ, fl, ρ', R, ev, k⟩ := h
  unfold sDrop at ev
  split at ev
  · cases ev
  · rename_i r ρ1 e1
    cases ev
    exact ⟨P, F, ρ, r, _, R, e1, fun v H1 F1 l1 R1 _ => k _ H1 F1 l1 R1⟩
theorem ps_dPass : PS X (.Pass pos) (rdS T B sNil) := PS.imp ps_pass fun D σ H h => by
  obtain ⟨P, F, ρ, fl, ρ', R, ev, k⟩ := h
  cases ev
  exact k σ H F (Le.refl _ _) R
theorem ps_dBreak : PS X (.Break pos) (rdS T B fun ρ => some (.br, ρ)) := PS.imp ps_break fun D σ H h => by
  obtain ⟨P, F, ρ, fl, ρ', R, ev, k⟩ := h
  cases ev
  exact k σ H F (Le.refl _ _) R
theorem ps_dCont : PS X (.Continue pos) (rdS T B fun ρ => some (.ct, ρ)) := PS.imp ps_continue fun D σ H h => by
  obtain ⟨P, F, ρ, fl, ρ', R, ev, k⟩ := h
  cases ev
  exact k σ H F (Le.refl _ _) R
theorem ps_dIf {a b : List Stmt} {tc : MT} {ta tb : MS} (hc : PT X c (rdT T B tc)) (ha : PSs X a (rdS T B ta)) (hb : PSs X b (rdS T B tb)) : PS X (.If c a b pos) (rdS T B (sIf tc ta tb)) := PS.imp (ps_if hc ha hb) fun D σ H h => by
  obtain ⟨P, F, ρ, fl, ρ', R, ev, k⟩ := h
  unfold sIf at ev
  split at ev
  · cases ev
  · rename_i ρ1 e1
    exact ⟨P, F, ρ, true, ρ1, R, e1, fun H1 F1 l1 R1 => by show (if true = true then _ else _); rw [if_pos rfl]; exact ⟨P, F1, ρ1, fl, ρ', R1, ev, fun σ' H' F' l' R' => k σ' H' F' (l1.trans l') R'⟩⟩
  · rename_i ρ1 e1
    exact ⟨P, F, ρ, false, ρ1, R, e1, fun H1 F1 l1 R1 => by show (if false = true then _ else _); rw [if_neg Bool.false_ne_true]; exact ⟨P, F1, ρ1, fl, ρ', R1, ev, fun σ' H' F' l' R' => k σ' H' F' (l1.trans l') R'⟩⟩
theorem pss_dNil : PSs X [] (rdS T B sNil) := PSs.imp pss_nil fun D σ H h => by
  obtain ⟨P, F, ρ, fl, ρ', R, ev, k⟩ := h
  cases ev
  exact k σ H F (Le.refl _ _) R
theorem pss_dCons {st : Stmt} {rest : List Stmt} {ta tb : MS} (h1 : PS X st (rdS T B ta)) (h2 : PSs X rest (rdS T B tb)) : PSs X (st :: rest) (rdS T B (sSeq ta tb)) := PSs.imp (pss_cons h1 h2) fun D σ H h => by
  obtain ⟨P, F, ρ, fl, ρ', R, ev, k⟩ := h
  unfold sSeq at ev
  split at ev
  · cases ev
  · rename_i ρ1 e1
    exact ⟨P, F, ρ, .nx, ρ1, R, e1, fun σ1 H1 F1 l1 R1 => ⟨P, F1, ρ1, fl, ρ', R1, ev, fun σ' H' F' l' R' => k σ' H' F' (l1.trans l') R'⟩⟩
  · rename_i f ρ1 hn e1
    cases ev
    refine ⟨P, F, ρ, fl, ρ', R, e1, fun σ1 H1 F1 l1 R1 => ?_⟩
    have := k σ1 H1 F1 l1 R1
    cases fl with
    | nx => exact absurd rfl hn
    | _ => exact this
theorem ps_dRet (ha : PE X e (rdE T B da)) : PS X (.Return (some e) pos) (rdS T B (sRet da)) := PS.imp (ps_ret ha) fun D σ H h => by
  obtain ⟨P, F, ρ, fl, ρ', R, ev, k⟩ := h
  unfold sRet at ev
  split at ev
  · cases ev
  · rename_i i ρ1 e1
    refine ⟨P, F, ρ, _, ρ1, R, e1, fun v H1 F1 l1 R1 q1 => ?_⟩
    have q1 : σ[i]? = some (some v) := q1
    cases g : get ρ1 i with
    | none => rw [g] at ev; cases ev
    | some sv =>
      rw [g] at ev
      obtain ⟨w, h1, h2⟩ := R1.ent i sv g
      rw [q1] at h1
      cases h1
      cases sv with
      | val d => cases ev; exact k σ H1 F1 l1 R1 v ⟨trivial, h2, fun _ _ _ z => by obtain ⟨ys, z⟩ := z; cases z⟩
      | own xs =>
        cases ev
        obtain ⟨a, vs, rfl, q2, q3, q4, q5⟩ := h2
        refine k σ H1 F1 l1 R1 (.ref a) ⟨trivial, ⟨a, vs, rfl, q2, q3, q4, q5, fun i sv g => (nothing g).elim⟩, fun j ys gj _ ej => ?_⟩
        have := R1.dist i j _ _ a g gj rfl rfl q1 ej
        subst this
        rw [g] at gj; cases gj
      | io xs => cases ev
      | dc kvs => obtain ⟨b, _, z, _⟩ := h2; exact z.elim
  · rename_i r ρ1 hn e1
    cases ev
    refine ⟨P, F, ρ, r, ρ', R, e1, fun v H1 F1 l1 R1 q1 => ?_⟩
    cases r with
    | val d => exact k σ H1 F1 l1 R1 v ⟨trivial, q1, fun _ _ _ z => by obtain ⟨ys, z⟩ := z; cases z⟩
    | tmp xs =>
      obtain ⟨a, vs, rfl, q2, q3, q4, q5, q6⟩ := q1
      exact k σ H1 F1 l1 R1 (.ref a) ⟨trivial, ⟨a, vs, rfl, q2, q3, q4, q5, fun i sv g => (nothing g).elim⟩, fun j ys gj _ ej => q6 j _ gj rfl ej⟩
    | tdc kvs => obtain ⟨b, _, z, _⟩ := q1; exact z.elim
    | slot i => exact absurd rfl (hn i)
end
end LH
end

section
set_option Elab.async false
set_option linter.all false
set_option maxRecDepth 100000
set_option maxHeartbeats 1000000
/-! What is walked. -/
namespace LH
open PySem PySem.Spec L2
/-! ### enumerate of a tuple -/
theorem new_enumB {v : Value} {o : Obj} {G : Heap → Prop} (B : Begins v o G) :
    Meets (Builtin.«enumerate.__new__» ⟨[.type "enumerate", v], []⟩) (fun _ R s => G s.heap ∧
      R (.ok (.ret (.ref (s.heap.push o).objs.size))) { s with heap := (s.heap.push o).push { cls := .type "enumerate", data := .fields #[.none, .bool false, .ref s.heap.objs.size, rawInt 0, .none, .none] } }) :=
  .of_wp fun prog w A R st hyp => by
    obtain ⟨heap, gens, drawn, tok, system⟩ := st; obtain ⟨first, hyp⟩ := hyp
    have isSub := sub_enumerate
    have begins : ∀ {A' : Around} {E : Value → Shared → Prop} {Q : Value → Shared → Prop}, Q (.ref heap.objs.size) ⟨heap.push o, gens, drawn, tok, system⟩ → wpAny (model prog w) A' (pyIter v) Q E ⟨heap, gens, drawn, tok, system⟩ :=
      fun q => B.iter prog w _ _ ⟨heap, gens, drawn, tok, system⟩ _ first q
    wp_walk using begins
    refine wpAny_stack_any fun stack => wpAny_pure ?_
    split
    · rename_i cl _ _ _ _ _
      cases (cl == Value.type "enumerate") <;> (wp_walk using begins; exact ⟨_, rfl, hyp⟩)
    · wp_walk using begins
      exact ⟨_, rfl, hyp⟩
section
variable {prog : Program} {w : World} {A : Around} {E : Value → Shared → Prop} {s : Shared}
theorem enum_new {v : Value} {o : Obj} {G : Heap → Prop} {Q : Value → Shared → Prop} (B : Begins v o G) (first : G s.heap)
    (h : ∀ h', IsEnum h' (s.heap.objs.size + 1) s.heap.objs.size 0 .none → h'.get? s.heap.objs.size = some o → h'.objs.size = s.heap.objs.size + 2 → (∀ b o, s.heap.get? b = some o → h'.get? b = some o) → Q (.ref (s.heap.objs.size + 1)) { s with heap := h' }) :
    wpAny (model prog w) A (call (.type "enumerate") [v]) Q E s := by
  refine callType_new F.called_enumerate (by decide) (F.typeCall_enumerate_1 _) (F.newCall_enumerate_1 _) (fun obj => F.args_object_init_2 obj _) F.entry_enumerate_new (new_enumB B) ⟨first, ?_⟩
  have size1 : (s.heap.push o).objs.size = s.heap.objs.size + 1 := Heap.size_push ..
  show _ ∧ _
  rw [size1]
  have made : IsEnum ((s.heap.push o).push { cls := .type "enumerate", data := .fields #[.none, .bool false, .ref s.heap.objs.size, rawInt 0, .none, .none] }) (s.heap.objs.size + 1) s.heap.objs.size 0 .none := by
    have at1 := Heap.get?_push_size (s.heap.push o) (o := { cls := .type "enumerate", data := .fields #[.none, .bool false, .ref s.heap.objs.size, rawInt 0, .none, .none] }) rfl
    rw [size1] at at1
    exact at1
  exact ⟨⟨_, made, rfl⟩, h _ made (Heap.get?_push_of_some _ (Heap.get?_push_size _ B.free)) (by rw [Heap.size_push, size1]) fun b o x => Heap.get?_push_of_some _ (Heap.get?_push_of_some _ x)⟩
end
/-- the tuple at a, each item in a new pair -/
def ItE (K : PySem.W.Frag) (a : Addr) : It :=
  ⟨fun i H => ∃ (xs : List V) (x : V), SqT K H a xs ∧ xs[i]? = some x, fun i H v H' => ∃ T x, v = .ref T ∧ H T = none ∧ H' = upd H T (.tup [.int (i : Nat), x]) ∧ ∀ xs, SqT K H a xs → xs[i]? = some x, fun i H => ∃ xs : List V, SqT K H a xs ∧ xs.length ≤ i⟩
theorem turn_enumTup {P : Program} {w : World} {K : PySem.W.Frag} {elts : List Expr} {kk : Nat} {tpos : Pos} (a e it : Addr) :
    Turn P w K (.Tuple elts kk tpos) (ItE K a) [e, it] e (fun i h => (∃ old, IsEnum h e it ((i : Nat) : Int) old) ∧ h.IsTupleIter it a i ∧ e ≠ it ∧ a ≠ it ∧ e ≠ a) where
  mem := by simp
  obj := fun i h st b hb => by
    obtain ⟨⟨old, he⟩, ⟨o, ho, hc, hd⟩, _⟩ := st
    rcases (show b = e ∨ b = it by simpa using hb) with z | z
    · rw [z]; exact ⟨_, he, fun v q => nomatch q⟩
    · rw [z]; exact ⟨o, ho, fun v q => by rw [hd] at q; cases q⟩
  keep := fun i h h' st k => let ⟨⟨old, he⟩, hi, hne⟩ := st; ⟨⟨old, k e (by simp) _ he⟩, hi.at fun o q => k it (by simp) o q, hne⟩
  item := by
    intro X hP hw hK hc i pins s σ H E I hf st hg
    subst hP hw hK
    obtain ⟨⟨old, he⟩, hit, hne, hai, hea⟩ := st
    obtain ⟨xs, x, hq, hx⟩ := hg
    obtain ⟨its, rv, p, hz⟩ := I.tuple hq
    have hel : e < s.heap.objs.size := Heap.lt_size he
    have hil : it < s.heap.objs.size := by obtain ⟨_, q, _⟩ := hit; exact Heap.lt_size q
    have lt : i < its.toArray.size := by
      have := (List.getElem?_eq_some_iff.mp hx).1
      rw [List.size_toArray, ← rv.length]
      exact this
    have D : Draws X.prog X.w X.A.in1 it [it, a] its.toArray.size (fun i v => its.toArray[i]? = some v) (fun i h => h.IsTupleIter it a i ∧ h.IsTuple a its.toArray) := Draws.tuple (A := X.A.in1) (I.ok.hd hc) it a hai its.toArray
    refine wpAny_pyNext_enum_itemD D he ⟨hit, p⟩ lt hne (by simp [hne, hea]) fun u h' tk hu ho hit' hT hsz hk => ?_
    have hu' : its[i]? = some u := by simpa using hu
    obtain ⟨u2, hu2, ru⟩ := rv.get hx
    rw [hu'] at hu2
    cases hu2
    refine ⟨_, rfl, wpAny_letOwnedTupleGo_enum (s := { s with heap := h', toks := tk + 1 }) ho fun h'' he' sb => ?_⟩
    have hT2 : h''.get? s.heap.objs.size = some { cls := .type "tuple", data := .seq #[.int i tk, u] } := (sb.2 _ (Nat.ne_of_gt hel)).trans hT
    have new : ObjOk X.prog X.w (upd H s.heap.objs.size (.tup [.int (i : Nat), x])) h'' s.heap.objs.size (.tup [.int (i : Nat), x]) :=
      ⟨by show 2 ≤ sizeLine; decide, [.int i tk, u], .cons ⟨_, rfl⟩ (.cons ru .nil), ⟨_, hT2, rfl, _, rfl⟩⟩
    have I1 : Inv X pins σ (upd H s.heap.objs.size (.tup [.int (i : Nat), x])) { s with heap := h'', toks := tk + 1 } :=
      I.turnedNew (ch := [e, it]) (fun b ob hb q => (sb.2 b (fun z => hb (by simp [z]))).trans (hk b ob (fun z => hb (by simp [z])) (fun z => hb (by simp [z])) q)) hf (Nat.le_refl _) new
    refine ⟨.ref s.heap.objs.size, _, I1, rfl, ⟨_, x, rfl, I.hok.fresh (Nat.le_refl _), rfl, fun ys hy => by rw [I.tuple_inj hy hq]; exact hx⟩, ⟨⟨u, ?_⟩, hit'.1.at fun o q => (sb.2 it (Ne.symm hne)).trans q, hne, hai, hea⟩, fun b hb => ?_⟩
    · have e1 : ((i + 1 : Nat) : Int) = (i : Int) + 1 := by omega
      rw [e1]; exact he'
    · have hb' : b < s.heap.objs.size := by
        rcases (show b = e ∨ b = it by simpa using hb) with z | z
        · rw [z]; exact hel
        · rw [z]; exact hil
      rw [upd_ne (Nat.ne_of_lt hb')]
      exact (hf b hb).1
  done := by
    intro X hP hw hK hc i pins s σ H E I hf st hg
    subst hP hw hK
    obtain ⟨⟨old, he⟩, hit, hne, hai, hea⟩ := st
    obtain ⟨xs, hq, hx⟩ := hg
    obtain ⟨its, rv, p, hz⟩ := I.tuple hq
    obtain ⟨f0, f1, f2, f3, f4, f5⟩ := hf it (by simp)
    have hl := rv.length
    have D : Draws X.prog X.w X.A.in1 it [it, a] its.toArray.size (fun i v => its.toArray[i]? = some v) (fun j h => h.IsTupleIter it a i ∧ h.IsTuple a its.toArray ∧ its.toArray.size ≤ i ∧ j = its.toArray.size) := {
      live := fun _ _ st => let ⟨o, ho, _⟩ := st.1; ⟨o, ho⟩
      frame := fun _ _ _ st hk => ⟨st.1.at fun o e => hk it (by simp) o e, st.2.1.at fun o e => hk a (by simp) o e, st.2.2⟩
      item := fun j s Q E hi st hQ => by
        rw [st.2.2.2] at hi
        exact absurd hi (Nat.lt_irrefl _)
      done := fun s Q E st hE => wpAny_nextOf_tuple_end (A := X.A.in1) (I.ok.hd hc) st.1 st.2.1 (Array.getElem?_eq_none st.2.2.1) hE }
    exact wpAny_pyNext_enum_endD D he ⟨hit, p, by simp; omega, rfl⟩ fun h' eb => ⟨rfl, I.turned (t' := s.toks) (fun b o hb q => eb b o hb q) f0 f1 f3 f4 f5⟩
  self := fun A i s Q E st h => let ⟨⟨_, he⟩, _⟩ := st; wpAny_pyIter_enum he h
def iEnumA (K : PySem.W.Frag) (ta : TA) : TI := fun σ H R => ta σ H fun vs H1 => ∃ a xs, vs = [.ref a] ∧ ((SqL K H1 a xs ∧ R (Ite K a) H1) ∨ (SqT K H1 a xs ∧ R (ItE K a) H1))
theorem pi_enumA {X : Cx} {e : Expr} {ta : TA} {p pos tpos : Pos} {elts : List Expr} {kk : Nat} (hg : Gl X "enumerate") (hm : X.mg "enumerate" = none) (ha : PA X [e] ta) (hs : starEach [e] X.env = (false, eval e X.env) :: starEach [] X.env) :
    PI X (.Tuple elts kk tpos) (.Call (.Name "enumerate" p) [e] [] pos) (iEnumA X.K ta) := by
  refine ⟨fun pins s σ H R I h => ?_⟩
  refine PyProof.Rows.Call_ (ld_blt I hg hm PyProof.Rows.boot_enumerate (PyProof.Rows.callWith_type1 (thn (ha.run pos pins s σ H _ I h) fun us s1 ⟨vs, H1, I1, r1, q1⟩ => ?_) hs rfl))
  obtain ⟨a, xs, ex, q1⟩ := q1
  subst ex
  cases r1 with
  | cons r rr =>
    cases rr
    cases r
    have news : ∀ b, b ∈ [s1.heap.objs.size + 1, s1.heap.objs.size] → FpOk X pins H1 b := fun b hb => by
      have hle : s1.heap.objs.size ≤ b := by
        rcases (show b = s1.heap.objs.size + 1 ∨ b = s1.heap.objs.size by simpa using hb) with z | z
        · rw [z]; exact Nat.le_add_right _ _
        · rw [z]; exact Nat.le_refl _
      exact I1.fpOk hle (I1.hok.fresh hle)
    rcases q1 with ⟨hq, q⟩ | ⟨hq, q⟩
    · obtain ⟨its, rv, p', hz⟩ := I1.list hq
      refine call_enumerate_list p'.isList fun h' he hit hsz hk => wpAny_pyIter_enum he ?_
      have I2 : Inv X pins σ H1 { s1 with heap := h' } := I1.kept (t' := s1.toks) hk
      exact ⟨s1.heap.objs.size + 1, [s1.heap.objs.size + 1, s1.heap.objs.size], _, _, H1, rfl, I2, turn_enum a (s1.heap.objs.size + 1) s1.heap.objs.size, ⟨⟨.none, he⟩, hit, Nat.succ_ne_self _⟩, news, q⟩
    · obtain ⟨its, rv, p', hz⟩ := I1.tuple hq
      have tup : s1.heap.IsTuple a its.toArray := p'
      refine enum_new (begins_tuple a its.toArray) tup fun h' he hit hsz hk => wpAny_pyIter_enum he ?_
      have I2 : Inv X pins σ H1 { s1 with heap := h' } := I1.kept (t' := s1.toks) hk
      have al : a < s1.heap.objs.size := by obtain ⟨o, ho, _⟩ := tup; exact Heap.lt_size ho
      exact ⟨s1.heap.objs.size + 1, [s1.heap.objs.size + 1, s1.heap.objs.size], _, _, H1, rfl, I2, turn_enumTup a (s1.heap.objs.size + 1) s1.heap.objs.size,
        ⟨⟨.none, he⟩, ⟨_, hit, rfl, rfl⟩, Nat.succ_ne_self _, Nat.ne_of_lt al, Nat.ne_of_gt (Nat.lt_succ_of_lt al)⟩, news, q⟩
end LH
end

section
set_option Elab.async false
set_option linter.all false
set_option maxRecDepth 100000
set_option maxHeartbeats 1000000
/-! Loops; in, len; items stored; what is walked, read. -/
namespace LH
open PySem PySem.Spec L2
/-- J walks xs, whatever has grown beside F0 -/
structure GW (F0 : Hp) (J : It) (xs : List D) : Prop where
  goes : ∀ i H, i < xs.length → Sub F0 H → J.go i H
  stops : ∀ H, Sub F0 H → J.stop xs.length H
  yields : ∀ i d H x H', xs[i]? = some d → J.yld i H x H' → ∀ T B P F ρ σ, Sub F0 F → Rel T B P F H ρ σ → ∃ F', Le P F F' ∧ Rel T B P F' H' ρ σ ∧ Rp F' x d
def rdI (T : TL) (B : Option Addr) (den : MI) : TI := fun σ H Q => ∃ P F ρ xs ρ', Rel T B P F H ρ σ ∧ den ρ = some (xs, ρ') ∧
  ∀ J H' F', Le P F F' → Rel T B P F' H' ρ' σ → GW F' J xs → Q J H'
theorem PI.imp {X : Cx} {tg e : Expr} {t t' : TI} (h : PI X tg e t) (i : ∀ σ H Q, t' σ H Q → t σ H Q) : PI X tg e t' := ⟨fun pins s σ H Q I q => h.run pins s σ H Q I (i σ H Q q)⟩
section
variable {K : PySem.W.Frag} {F0 : Hp} {a b : Addr} {vs ws : List V} {xs ys : List D}
theorem sqL {F : Hp} (h : Rd F a (.lst vs)) : SqL K F a vs := .inl h
theorem gw_list (h : Rd F0 a (.lst vs)) (r : RpL F0 vs xs) : GW F0 (Itl K a) xs where
  goes := fun i H lt s => by
    obtain ⟨v, hv, _⟩ := r.get (List.getElem?_eq_getElem lt)
    exact ⟨vs, v, .inl (Rd.sub s h), hv⟩
  stops := fun H s => ⟨vs, .inl (Rd.sub s h), Nat.le_of_eq r.length⟩
  yields := fun i d H x H' e y T B P F ρ σ s R => by
    obtain ⟨e1, f⟩ := y
    subst e1
    obtain ⟨v, hv, rp⟩ := r.get e
    have := f vs (.inl (Rd.sub (s.trans R.fh) h))
    rw [hv] at this
    cases this
    exact ⟨F, Le.refl _ _, R, rp.mono s⟩
theorem gw_tup (h : Rd F0 a (.tup vs)) (r : RpL F0 vs xs) : GW F0 (Itt K a) xs where
  goes := fun i H lt s => by
    obtain ⟨v, hv, _⟩ := r.get (List.getElem?_eq_getElem lt)
    exact ⟨vs, v, .inl (Rd.sub s h), hv⟩
  stops := fun H s => ⟨vs, .inl (Rd.sub s h), Nat.le_of_eq r.length⟩
  yields := fun i d H x H' e y T B P F ρ σ s R => by
    obtain ⟨e1, f⟩ := y
    subst e1
    obtain ⟨v, hv, rp⟩ := r.get e
    have := f vs (.inl (Rd.sub (s.trans R.fh) h))
    rw [hv] at this
    cases this
    exact ⟨F, Le.refl _ _, R, rp.mono s⟩
theorem gw_range {lo : Int} {n : Nat} : GW F0 (Itr lo n) ((List.range n).map fun (k : Nat) => .int (lo + (k : Int))) where
  goes := fun i H lt s => by show i < n; simpa using lt
  stops := fun H s => by show n ≤ _; simp
  yields := fun i d H x H' e y T B P F ρ σ s R => by
    obtain ⟨e1, e2⟩ := y
    subst e1; subst e2
    simp only [List.getElem?_map] at e
    obtain ⟨k, hk, rfl⟩ := Option.map_eq_some_iff.mp e
    obtain ⟨hl, hk⟩ := List.getElem?_eq_some_iff.mp hk
    rw [List.getElem_range] at hk
    subst hk
    exact ⟨F, Le.refl _ _, R, .int _⟩
theorem gw_rangeC {lo c : Int} {n : Nat} : GW F0 (Itc lo c n) ((List.range n).map fun (k : Nat) => .int (lo + (k : Int) * c)) where
  goes := fun i H lt s => by show i < n; simpa using lt
  stops := fun H s => by show n ≤ _; simp
  yields := fun i d H x H' e y T B P F ρ σ s R => by
    obtain ⟨e1, e2⟩ := y
    subst e1; subst e2
    simp only [List.getElem?_map] at e
    obtain ⟨k, hk, rfl⟩ := Option.map_eq_some_iff.mp e
    obtain ⟨hl, hk⟩ := List.getElem?_eq_some_iff.mp hk
    rw [List.getElem_range] at hk
    subst hk
    exact ⟨F, Le.refl _ _, R, .int _⟩
theorem enumL_get {xs : List D} {i : Nat} {d : D} (h : (enumL xs)[i]? = some d) : ∃ x, xs[i]? = some x ∧ d = .tuple [.int (i : Int), x] := by
  unfold enumL at h
  rw [List.getElem?_zipWith] at h
  split at h
  · rename_i k x h1 h2
    obtain ⟨hl, hk⟩ := List.getElem?_eq_some_iff.mp h1
    rw [List.getElem_range] at hk
    subst hk
    cases h
    exact ⟨x, h2, rfl⟩
  · cases h
theorem enumL_len (xs : List D) : (enumL xs).length = xs.length := by unfold enumL; simp
theorem zipL_get {xs ys : List D} {i : Nat} {d : D} (h : (zipL xs ys)[i]? = some d) : ∃ x y, xs[i]? = some x ∧ ys[i]? = some y ∧ d = .tuple [x, y] := by
  unfold zipL at h
  rw [List.getElem?_zipWith] at h
  split at h
  · rename_i x y h1 h2
    cases h
    exact ⟨x, y, h1, h2, rfl⟩
  · cases h
theorem zipL_len (xs ys : List D) : (zipL xs ys).length = min xs.length ys.length := by unfold zipL; simp
theorem pair_new {T : TL} {B : Option Addr} {P F H : Hp} {ρ : Env} {σ : St} {p : Addr} {v w : V} {x y : D} (R : Rel T B P F H ρ σ) (hp : H p = none) (rv : Rp F v x) (rw' : Rp F w y) :
    ∃ F', Le P F F' ∧ Rel T B P F' (upd H p (.tup [v, w])) ρ σ ∧ Rp F' (.ref p) (.tuple [x, y]) := by
  obtain ⟨l, R', q⟩ := R.newTup hp (RpL.cons rv (RpL.cons rw' .nil))
  exact ⟨_, l, R', q⟩
theorem gw_enumL (h : Rd F0 a (.lst vs)) (r : RpL F0 vs xs) : GW F0 (Ite K a) (enumL xs) where
  goes := fun i H lt s => by
    rw [enumL_len] at lt
    obtain ⟨v, hv, _⟩ := r.get (List.getElem?_eq_getElem lt)
    exact ⟨vs, v, .inl (Rd.sub s h), hv⟩
  stops := fun H s => ⟨vs, .inl (Rd.sub s h), by rw [enumL_len, r.length]; exact Nat.le_refl _⟩
  yields := fun i d H x H' e y T B P F ρ σ s R => by
    obtain ⟨p, u, rfl, hp, rfl, f⟩ := y
    obtain ⟨x, hx, rfl⟩ := enumL_get e
    obtain ⟨v, hv, rp⟩ := r.get hx
    have := f vs (.inl (Rd.sub (s.trans R.fh) h))
    rw [hv] at this
    cases this
    exact pair_new R hp (.int _) (rp.mono s)
theorem gw_enumT (h : Rd F0 a (.tup vs)) (r : RpL F0 vs xs) : GW F0 (ItE K a) (enumL xs) where
  goes := fun i H lt s => by
    rw [enumL_len] at lt
    obtain ⟨v, hv, _⟩ := r.get (List.getElem?_eq_getElem lt)
    exact ⟨vs, v, .inl (Rd.sub s h), hv⟩
  stops := fun H s => ⟨vs, .inl (Rd.sub s h), by rw [enumL_len, r.length]; exact Nat.le_refl _⟩
  yields := fun i d H x H' e y T B P F ρ σ s R => by
    obtain ⟨p, u, rfl, hp, rfl, f⟩ := y
    obtain ⟨x, hx, rfl⟩ := enumL_get e
    obtain ⟨v, hv, rp⟩ := r.get hx
    have := f vs (.inl (Rd.sub (s.trans R.fh) h))
    rw [hv] at this
    cases this
    exact pair_new R hp (.int _) (rp.mono s)
theorem gw_zipL (h : Rd F0 a (.lst vs)) (r : RpL F0 vs xs) (h2 : Rd F0 b (.lst ws)) (r2 : RpL F0 ws ys) : GW F0 (Itz K a b) (zipL xs ys) where
  goes := fun i H lt s => by
    rw [zipL_len] at lt
    obtain ⟨v, hv, _⟩ := r.get (List.getElem?_eq_getElem (show i < xs.length by omega))
    obtain ⟨w, hw, _⟩ := r2.get (List.getElem?_eq_getElem (show i < ys.length by omega))
    exact ⟨vs, ws, v, w, .inl (Rd.sub s h), .inl (Rd.sub s h2), hv, hw⟩
  stops := fun H s => ⟨vs, ws, .inl (Rd.sub s h), .inl (Rd.sub s h2), by rw [zipL_len, r.length, r2.length]; omega⟩
  yields := fun i d H x H' e y T B P F ρ σ s R => by
    obtain ⟨p, u, u2, rfl, hp, rfl, f, f2⟩ := y
    obtain ⟨x, y, hx, hy, rfl⟩ := zipL_get e
    obtain ⟨v, hv, rp⟩ := r.get hx
    obtain ⟨w, hw, rp2⟩ := r2.get hy
    have h1 := f vs (.inl (Rd.sub (s.trans R.fh) h))
    have h2 := f2 ws (.inl (Rd.sub (s.trans R.fh) h2))
    rw [hv] at h1
    rw [hw] at h2
    cases h1
    cases h2
    exact pair_new R hp (rp.mono s) (rp2.mono s)
theorem gw_zipT (h : Rd F0 a (.tup vs)) (r : RpL F0 vs xs) (h2 : Rd F0 b (.tup ws)) (r2 : RpL F0 ws ys) : GW F0 (RZ.ItzT K a b) (zipL xs ys) where
  goes := fun i H lt s => by
    rw [zipL_len] at lt
    obtain ⟨v, hv, _⟩ := r.get (List.getElem?_eq_getElem (show i < xs.length by omega))
    obtain ⟨w, hw, _⟩ := r2.get (List.getElem?_eq_getElem (show i < ys.length by omega))
    exact ⟨vs, ws, v, w, .inl (Rd.sub s h), .inl (Rd.sub s h2), hv, hw⟩
  stops := fun H s => ⟨vs, ws, .inl (Rd.sub s h), .inl (Rd.sub s h2), by rw [zipL_len, r.length, r2.length]; omega⟩
  yields := fun i d H x H' e y T B P F ρ σ s R => by
    obtain ⟨p, u, u2, rfl, hp, rfl, f, f2⟩ := y
    obtain ⟨x, y, hx, hy, rfl⟩ := zipL_get e
    obtain ⟨v, hv, rp⟩ := r.get hx
    obtain ⟨w, hw, rp2⟩ := r2.get hy
    have h1 := f vs (.inl (Rd.sub (s.trans R.fh) h))
    have h2 := f2 ws (.inl (Rd.sub (s.trans R.fh) h2))
    rw [hv] at h1
    rw [hw] at h2
    cases h1
    cases h2
    exact pair_new R hp (rp.mono s) (rp2.mono s)
end
section
variable {X : Cx} {T : TL} {B : Option Addr} {a b c e tg : Expr} {da db dc : ME} {pos : Pos}
/-- a list or a tuple, whatever gives it -/
def iAny (K : PySem.W.Frag) (te : TE) : TI := fun σ H R => te σ H fun x H1 => ∃ a, x = .ref a ∧ (((∃ xs, SqL K H1 a xs) ∧ R (Itl K a) H1) ∨ ((∃ xs, SqT K H1 a xs) ∧ R (Itt K a) H1))
theorem pi_any {te : TE} (he : PE X e te) : PI X tg e (iAny X.K te) := by
  refine ⟨fun pins s σ H R I h => ?_⟩
  refine thn (he.run pins s σ H _ I h) fun u s1 ⟨x, H1, I1, rx, a, ex, q⟩ => ?_
  subst ex
  cases rx
  have news : ∀ b, b ∈ [s1.heap.objs.size] → FpOk X pins H1 b := fun b hb => by
    have e : b = s1.heap.objs.size := by simpa using hb
    subst e
    exact I1.fpOk (Nat.le_refl _) (I1.hok.fresh (Nat.le_refl _))
  rcases q with ⟨⟨xs, hq⟩, q⟩ | ⟨⟨xs, hq⟩, q⟩
  · obtain ⟨its, rv, p, hz⟩ := I1.list hq
    refine wpAny_pyIter_list p.isList ?_
    exact ⟨s1.heap.objs.size, [s1.heap.objs.size], _, _, H1, rfl, I1.kept (t' := s1.toks) fun b o e => Heap.get?_push_of_some _ e, turn_list a _, ⟨_, Heap.get?_push_size _ rfl, rfl, rfl⟩, news, q⟩
  · obtain ⟨its, rv, p, hz⟩ := I1.tuple hq
    refine wpAny_pyIter_tuple (show s1.heap.IsTuple a its.toArray from p) ?_
    exact ⟨s1.heap.objs.size, [s1.heap.objs.size], _, _, H1, rfl, I1.kept (t' := s1.toks) fun b o e => Heap.get?_push_of_some _ e, turn_tuple a _, ⟨_, Heap.get?_push_size _ rfl, rfl, rfl⟩, news, q⟩
theorem pi_mSeq (ha : PE X e (rdE T B da)) : PI X tg e (rdI T B (mSeq da)) := PI.imp (pi_any ha) fun σ H Q h => by
  obtain ⟨P, F, ρ, xs, ρ', R, ev, k⟩ := h
  unfold mSeq at ev
  split at ev
  · cases ev
  · rename_i r ρ1 e1
    split at ev
    · cases ev
    · rename_i d ρ2 e2
      split at ev
      · cases ev
      · rename_i ys e3
        cases ev
        refine ⟨P, F, ρ, r, ρ1, R, e1, fun v H1 F1 l1 R1 q1 => ?_⟩
        obtain ⟨F2, l2, R2, rp, _, _⟩ := share_ok R1 q1 e2
        cases rp with
        | lst h1 rl => cases e3; exact ⟨_, rfl, .inl ⟨⟨_, .inl (Rd.sub R2.fh h1)⟩, k _ H1 F2 (l1.trans l2) R2 (gw_list h1 rl)⟩⟩
        | tup h1 rl => cases e3; exact ⟨_, rfl, .inr ⟨⟨_, .inl (Rd.sub R2.fh h1)⟩, k _ H1 F2 (l1.trans l2) R2 (gw_tup h1 rl)⟩⟩
        | _ => cases e3
theorem repRs1 {F H : Hp} {ρ : Env} {σ : St} {P : Hp} {r : R} {vs : List V} (q : RepRs F H ρ σ P [r] vs) : ∃ v, vs = [v] ∧ RepR P F H ρ σ r v := by
  cases vs with
  | nil => exact q.elim
  | cons v vs => cases vs with
    | nil => exact ⟨v, rfl, q.1⟩
    | cons w ws => exact q.2.elim
theorem repRs2 {F H : Hp} {ρ : Env} {σ : St} {P : Hp} {r r2 : R} {vs : List V} (q : RepRs F H ρ σ P [r, r2] vs) : ∃ v w, vs = [v, w] ∧ RepR P F H ρ σ r v ∧ RepR (LH.pin P H r v) F H ρ σ r2 w := by
  cases vs with
  | nil => exact q.elim
  | cons v vs =>
    obtain ⟨w, rfl, q2⟩ := repRs1 q.2
    exact ⟨v, w, rfl, q.1, q2⟩
theorem pi_mRng1 {p : Pos} (hg : Gl X "range") (hm : X.mg "range" = none) (ha : PA X [a] (rdA T B [da])) (hs : starEach [a] X.env = [(false, eval a X.env)]) : PI X tg (.Call (.Name "range" p) [a] [] pos) (rdI T B (mRng1 da)) :=
  PI.imp (pi_range1 hg hm ha hs) fun σ H Q h => by
    obtain ⟨P, F, ρ, xs, ρ', R, ev, k⟩ := h
    unfold mRng1 at ev
    split at ev
    · rename_i j ρ1 e1
      split at ev
      · rename_i hz
        cases ev
        have hz := s62 hz
        refine ⟨P, F, ρ, _, _, R, e1, fun vs H1 F1 l1 R1 q1 => ?_⟩
        obtain ⟨v, rfl, q2⟩ := repRs1 q1
        cases q2
        refine ⟨j, rfl, hz.1, hz.2, k _ H1 F1 l1 R1 ?_⟩
        have := gw_range (F0 := F1) (lo := 0) (n := j.toNat)
        unfold rngL
        rw [show (j - 0).toNat = j.toNat by omega]
        exact this
      · cases ev
    · cases ev
theorem pi_mRng2 {p : Pos} (hg : Gl X "range") (hm : X.mg "range" = none) (ha : PA X [a, b] (rdA T B [da, db])) (hs : starEach [a, b] X.env = [(false, eval a X.env), (false, eval b X.env)]) (hs2 : starEach [b] X.env = [(false, eval b X.env)]) :
    PI X tg (.Call (.Name "range" p) [a, b] [] pos) (rdI T B (mRng2 da db)) :=
  PI.imp (pi_range2 hg hm ha hs hs2) fun σ H Q h => by
    obtain ⟨P, F, ρ, xs, ρ', R, ev, k⟩ := h
    unfold mRng2 at ev
    split at ev
    · rename_i i j ρ1 e1
      split at ev
      · rename_i hz
        cases ev
        rw [Bool.and_eq_true] at hz
        have h1 := s62 hz.1
        have h2 := s62 hz.2
        refine ⟨P, F, ρ, _, _, R, e1, fun vs H1 F1 l1 R1 q1 => ?_⟩
        obtain ⟨v, w, rfl, q2, q3⟩ := repRs2 q1
        cases q2
        cases q3
        exact ⟨i, j, rfl, ⟨h1.1, h1.2, h2.1, h2.2⟩, k _ H1 F1 l1 R1 gw_range⟩
      · cases ev
    · cases ev
theorem pi_mRngD {p : Pos} (hg : Gl X "range") (hm : X.mg "range" = none) (ha : PA X [a, b, c] (rdA T B [da, db, dc])) (hs : starEach [a, b, c] X.env = (false, eval a X.env) :: starEach [b, c] X.env) (hpl : (backTo pos (starEach [b, c] X.env)).any (·.1) = false) :
    PI X tg (.Call (.Name "range" p) [a, b, c] [] pos) (rdI T B (mRngD da db dc)) :=
  PI.imp (pi_range3 hg hm ha hs hpl) fun σ H Q h => by
    obtain ⟨P, F, ρ, xs, ρ', R, ev, k⟩ := h
    unfold mRngD at ev
    split at ev
    · rename_i i j ρ1 e1
      split at ev
      · rename_i hz
        cases ev
        rw [Bool.and_eq_true] at hz
        have h1 := s62 hz.1
        have h2 := s62 hz.2
        refine ⟨P, F, ρ, _, _, R, e1, fun vs H1 F1 l1 R1 q1 => ?_⟩
        cases vs with
        | nil => exact q1.elim
        | cons u vs =>
          obtain ⟨v, w, rfl, q2, q3⟩ := repRs2 q1.2
          have q0 := q1.1
          cases q0
          cases q2
          cases q3
          exact ⟨i, j, -1, (i - j).toNat, rfl, RgC.neg h1.1 h1.2 h2.1 h2.2, k _ H1 F1 l1 R1 gw_rangeC⟩
      · cases ev
    · cases ev
theorem pi_mEnum {p tpos : Pos} {elts : List Expr} {kk : Nat} (hg : Gl X "enumerate") (hm : X.mg "enumerate" = none) (ha : PA X [a] (rdA T B [da])) (hs : starEach [a] X.env = (false, eval a X.env) :: starEach [] X.env) :
    PI X (.Tuple elts kk tpos) (.Call (.Name "enumerate" p) [a] [] pos) (rdI T B (mEnum da)) :=
  PI.imp (pi_enumA hg hm ha hs) fun σ H Q h => by
    obtain ⟨P, F, ρ, xs, ρ', R, ev, k⟩ := h
    unfold mEnum at ev
    split at ev
    · cases ev
    · rename_i rs ρ1 e1
      split at ev
      · rename_i ys ρ2 e2
        cases ev
        refine ⟨P, F, ρ, rs, ρ1, R, e1, fun vs H1 F1 l1 R1 q1 => ?_⟩
        obtain ⟨F2, l2, R2, rl, _⟩ := shares_ok R1 q1 e2
        cases rl with
        | cons rp rl => cases rl; cases rp with
          | lst h1 rl => exact ⟨_, _, rfl, .inl ⟨.inl (Rd.sub R2.fh h1), k _ H1 F2 (l1.trans l2) R2 (gw_enumL h1 rl)⟩⟩
      · rename_i ys ρ2 e2
        cases ev
        refine ⟨P, F, ρ, rs, ρ1, R, e1, fun vs H1 F1 l1 R1 q1 => ?_⟩
        obtain ⟨F2, l2, R2, rl, _⟩ := shares_ok R1 q1 e2
        cases rl with
        | cons rp rl => cases rl; cases rp with
          | tup h1 rl => exact ⟨_, _, rfl, .inr ⟨.inl (Rd.sub R2.fh h1), k _ H1 F2 (l1.trans l2) R2 (gw_enumT h1 rl)⟩⟩
      · cases ev
theorem pi_mZip {p tpos : Pos} {elts : List Expr} {kk : Nat} (hg : Gl X "zip") (hm : X.mg "zip" = none) (ha : PA X [a, b] (rdA T B [da, db])) (hs : starEach [a, b] X.env = (false, eval a X.env) :: starEach [b] X.env) (hpl : (backTo pos (starEach [b] X.env)).any (·.1) = false) :
    PI X (.Tuple elts kk tpos) (.Call (.Name "zip" p) [a, b] [] pos) (rdI T B (mZip da db)) :=
  PI.imp (RZ.pi_zipA hg hm ha hs hpl) fun σ H Q h => by
    obtain ⟨P, F, ρ, xs, ρ', R, ev, k⟩ := h
    unfold mZip at ev
    split at ev
    · cases ev
    · rename_i rs ρ1 e1
      split at ev
      · rename_i ys zs ρ2 e2
        cases ev
        refine ⟨P, F, ρ, rs, ρ1, R, e1, fun vs H1 F1 l1 R1 q1 => ?_⟩
        obtain ⟨F2, l2, R2, rl, _⟩ := shares_ok R1 q1 e2
        cases rl with
        | cons rp rl => cases rl with
          | cons rp2 rl => cases rl; cases rp with
            | lst h1 rl => cases rp2 with
              | lst h2 rl2 => exact ⟨_, _, _, _, rfl, .inl ⟨.inl (Rd.sub R2.fh h1), .inl (Rd.sub R2.fh h2), k _ H1 F2 (l1.trans l2) R2 (gw_zipL h1 rl h2 rl2)⟩⟩
      · rename_i ys zs ρ2 e2
        cases ev
        refine ⟨P, F, ρ, rs, ρ1, R, e1, fun vs H1 F1 l1 R1 q1 => ?_⟩
        obtain ⟨F2, l2, R2, rl, _⟩ := shares_ok R1 q1 e2
        cases rl with
        | cons rp rl => cases rl with
          | cons rp2 rl => cases rl; cases rp with
            | tup h1 rl => cases rp2 with
              | tup h2 rl2 => exact ⟨_, _, _, _, rfl, .inr ⟨.inl (Rd.sub R2.fh h1), .inl (Rd.sub R2.fh h2), k _ H1 F2 (l1.trans l2) R2 (gw_zipT h1 rl h2 rl2)⟩⟩
      · cases ev
/-! loops -/
theorem ps_dFor {it : Expr} {body : List Stmt} {g : MG} {mi : MI} {ms : MS} {ts : List Nat} (hp : PassesOwn (model X.prog X.w) X.A X.env X.xe) (hc : X.calm = true) (hi : PI X tg it (rdI T B mi)) (hg : PG X tg (rdG T B ts g)) (hb : PSs X body (rdS T B ms))
    (hs : ∀ x, foldedSetIterable it X.env x = pure x) : PS X (.For tg it body [] pos) (rdS T B (sFor g mi ms)) := PS.imp (ps_for hp hc hi hg hb hs) fun D σ H h => by
  obtain ⟨P, F, ρ, fl, ρ', R, ev, k⟩ := h
  unfold sFor at ev
  split at ev
  · cases ev
  · rename_i xs ρ1 e1
    refine ⟨P, F, ρ, xs, ρ1, R, e1, fun J H1 F1 l1 R1 gw => ?_⟩
    refine ⟨fun i m σ H => m = xs.length - i ∧ i ≤ xs.length ∧ ∃ F2 ρ2, Le P F1 F2 ∧ Rel T B P F2 H ρ2 σ ∧ forL g ms (xs.drop i) ρ2 = some (fl, ρ'), ⟨_, rfl, Nat.zero_le _, F1, ρ1, Le.refl _ _, R1, ev⟩, ?_⟩
    rintro i m σ2 H2 ⟨rfl, hle, F2, ρ2, l2, R2, ev2⟩
    by_cases lt : i < xs.length
    · refine .inr ⟨gw.goes i H2 lt (l2.up.trans R2.fh), fun σ H => ∃ F3 ρ3, Le P F1 F3 ∧ Rel T B P F3 H ρ3 σ ∧ forL g ms (xs.drop (i + 1)) ρ3 = some (fl, ρ'), fun σ' H' ⟨F3, ρ3, l3, R3, e3⟩ => ⟨_, by omega, rfl, lt, F3, ρ3, l3, R3, e3⟩, fun x H3 y => ?_⟩
      have ex : xs[i]? = some xs[i] := List.getElem?_eq_getElem lt
      obtain ⟨F3, l3, R3, rp⟩ := gw.yields i _ H2 x H3 ex y T B P F2 ρ2 σ2 l2.up R2
      rw [List.drop_eq_getElem_cons lt] at ev2
      have ev2 : (match g xs[i] ρ2 with
        | none => none
        | some ρ1 => match ms ρ1 with
          | none => none
          | some (.br, ρ2) => some (.nx, ρ2)
          | some (.ret r, ρ2) => some (.ret r, ρ2)
          | some (_, ρ2) => forL g ms (xs.drop (i + 1)) ρ2) = some (fl, ρ') := ev2
      split at ev2
      · cases ev2
      · rename_i ρ4 e4
        refine ⟨P, F3, ρ2, _, ρ4, R3, rp, e4, fun σ4 _ R4 => ?_⟩
        have l13 := l2.trans l3
        split at ev2
        · cases ev2
        · rename_i ρ5 e5
          cases ev2
          exact ⟨P, F3, ρ4, .br, _, R4, e5, fun σ5 H5 F5 l5 R5 => k σ5 H5 F5 (l1.trans (l13.trans l5)) R5⟩
        · rename_i r ρ5 e5
          cases ev2
          exact ⟨P, F3, ρ4, .ret r, _, R4, e5, fun σ5 H5 F5 l5 R5 => k σ5 H5 F5 (l1.trans (l13.trans l5)) R5⟩
        · rename_i f ρ5 hn1 hn2 e5
          refine ⟨P, F3, ρ4, f, ρ5, R4, e5, fun σ5 H5 F5 l5 R5 => ?_⟩
          cases f with
          | nx => exact ⟨F5, ρ5, l13.trans l5, R5, ev2⟩
          | ct => exact ⟨F5, ρ5, l13.trans l5, R5, ev2⟩
          | br => exact absurd rfl hn1
          | ret r => exact absurd rfl (hn2 r)
    · have e : i = xs.length := by omega
      subst e
      rw [List.drop_length] at ev2
      cases ev2
      exact .inl ⟨gw.stops H2 (l2.up.trans R2.fh), k σ2 H2 F2 (l1.trans l2) R2⟩
theorem ps_dWhile {body : List Stmt} {mt : MT} {ms : MS} (hp : PassesOwn (model X.prog X.w) X.A X.env X.xe) (hc : PT X c (rdT T B mt)) (hb : PSs X body (rdS T B ms)) : PS X (.While c body [] pos) (rdS T B (sWhile mt ms)) := PS.imp (ps_while hp hc hb) fun D σ H h => by
  obtain ⟨P, F, ρ, fl, ρ', R, ev, k⟩ := h
  refine ⟨fun m σ H => ∃ F2 ρ2, Le P F F2 ∧ Rel T B P F2 H ρ2 σ ∧ whileN mt ms m ρ2 = some (fl, ρ'), ⟨100000, F, ρ, Le.refl _ _, R, ev⟩, ?_⟩
  rintro m σ2 H2 ⟨F2, ρ2, l2, R2, ev2⟩
  cases m with
  | zero => cases ev2
  | succ m =>
    have ev2 : (match mt ρ2 with
      | none => none
      | some (false, ρ1) => some (.nx, ρ1)
      | some (true, ρ1) => match ms ρ1 with
        | none => none
        | some (.br, ρ2) => some (.nx, ρ2)
        | some (.ret r, ρ2) => some (.ret r, ρ2)
        | some (_, ρ2) => whileN mt ms m ρ2) = some (fl, ρ') := ev2
    split at ev2
    · cases ev2
    · rename_i ρ3 e3
      cases ev2
      exact ⟨P, F2, ρ2, false, _, R2, e3, fun H3 F3 l3 R3 => iteF <| k σ2 H3 F3 (l2.trans l3) R3⟩
    · rename_i ρ3 e3
      refine ⟨P, F2, ρ2, true, ρ3, R2, e3, fun H3 F3 l3 R3 => iteT <| ?_⟩
      refine ⟨fun σ H => ∃ F2 ρ2, Le P F F2 ∧ Rel T B P F2 H ρ2 σ ∧ whileN mt ms m ρ2 = some (fl, ρ'), fun σ' H' z => ⟨m, Nat.lt_succ_self _, z⟩, ?_⟩
      have l13 := l2.trans l3
      split at ev2
      · cases ev2
      · rename_i ρ5 e5
        cases ev2
        exact ⟨P, F3, ρ3, .br, _, R3, e5, fun σ5 H5 F5 l5 R5 => k σ5 H5 F5 (l13.trans l5) R5⟩
      · rename_i r ρ5 e5
        cases ev2
        exact ⟨P, F3, ρ3, .ret r, _, R3, e5, fun σ5 H5 F5 l5 R5 => k σ5 H5 F5 (l13.trans l5) R5⟩
      · rename_i f ρ5 hn1 hn2 e5
        refine ⟨P, F3, ρ3, f, ρ5, R3, e5, fun σ5 H5 F5 l5 R5 => ?_⟩
        cases f with
        | nx => exact ⟨F5, ρ5, l13.trans l5, R5, ev2⟩
        | ct => exact ⟨F5, ρ5, l13.trans l5, R5, ev2⟩
        | br => exact absurd rfl hn1
        | ret r => exact absurd rfl (hn2 r)
end
end LH
end

section
set_option Elab.async false
set_option linter.all false
set_option maxRecDepth 100000
set_option maxHeartbeats 1000000
/-! op=, items stored, in, len, pairs stored. -/
namespace LH
open PySem PySem.Spec L2
theorem ip_mul {X : Cx} : PIp X .Mult (fun x y H Q => ∃ i j : Int, x = .int i ∧ y = .int j ∧ CMul i j ∧ Q (.int (i * j)) H) := by
  intro pins s σ H x y v u Q I r1 r2 h
  obtain ⟨i, j, e1, e2, hm, q⟩ := h
  subst e1; subst e2
  obtain ⟨t, rfl⟩ := r1
  obtain ⟨t', rfl⟩ := r2
  exact PySem.P.imul_int ⟨.int _, H, I.tok _, ⟨_, rfl⟩, q⟩ hm.ok
section
variable {X : Cx} {T : TL} {B : Option Addr} {a b c e tg : Expr} {da db dc : ME} {pos : Pos}
theorem aug_some {i : Nat} {f : D → D → Option R} {ρ ρ' : Env} {fl : Fl} (h : sAug i f da ρ = some (fl, ρ')) : ∃ x r ρ1 y z, get ρ i = some (.val x) ∧ da ρ = some (r, ρ1) ∧ look r ρ1 = some y ∧ f x y = some (.val z) ∧ fl = .nx ∧ ρ' = ρ1.set i (some (.val z)) := by
  unfold sAug at h
  split at h
  · rename_i x g
    split at h
    · cases h
    · rename_i r ρ1 e1
      split at h
      · cases h
      · rename_i y e2
        split at h
        · rename_i z e3
          cases h
          exact ⟨x, r, ρ1, y, z, g, e1, e2, e3, rfl, rfl⟩
        · cases h
  · cases h
/-- ints: x op y -/
def augOk (f : D → D → Option R) (ti : TIp) : Prop := ∀ x y z, f x y = some (.val z) → ∃ i j k : Int, x = .int i ∧ y = .int j ∧ z = .int k ∧ ∀ H Q, Q (.int k) H → ti (.int i) (.int j) H Q
theorem aug_rule {o : Operator} {f : D → D → Option R} (h : augOp o = some f) : ∃ ti, PIp X o ti ∧ augOk f ti := by
  cases o with
  | Add =>
    cases h
    refine ⟨_, ip_add, fun x y z e => ?_⟩
    unfold fAugAdd at e
    split at e
    · rename_i i j; cases e; exact ⟨i, j, _, rfl, rfl, rfl, fun H Q q => ⟨i, j, rfl, rfl, q⟩⟩
    · cases e
  | Sub =>
    cases h
    refine ⟨_, ip_sub, fun x y z e => ?_⟩
    unfold fSub at e
    split at e
    · rename_i i j; cases e; exact ⟨i, j, _, rfl, rfl, rfl, fun H Q q => ⟨i, j, rfl, rfl, q⟩⟩
    · cases e
  | Mult =>
    cases h
    refine ⟨_, ip_mul, fun x y z e => ?_⟩
    unfold fAugMul at e
    split at e
    · rename_i i j
      split at e
      · rename_i hz
        cases e
        refine ⟨i, j, _, rfl, rfl, rfl, fun H Q q => ⟨i, j, rfl, rfl, ?_, q⟩⟩
        simp only [smallI, Bool.or_eq_true, Bool.and_eq_true, decide_eq_true_eq] at hz
        unfold CMul
        omega
      · cases e
    · cases e
  | _ => cases h
theorem ps_dAug {i : Nat} {x : Str} {o : Operator} {f : D → D → Option R} {pos' : Pos} (hN : X.N.Nodup) (hi : X.N[i]? = some x) (hx : Loc X.env.scope x) (ha : PE X e (rdE T B da)) (ho : augOp o = some f) (hf : X.fn x = true ∨ X.env.scope.names.lookup x = some .local) :
    PS X (.AugAssign (.Name x pos') o e pos) (rdS T B (sAug i f da)) := by
  obtain ⟨ti, hp, ok⟩ := aug_rule (X := X) ho
  refine PS.imp (ps_aug hN hi hx ha hp hf) fun D σ H h => ?_
  obtain ⟨P, F, ρ, fl, ρ', R, ev, k⟩ := h
  obtain ⟨x, r, ρ1, y, z, g, e1, e2, e3, rfl, rfl⟩ := aug_some ev
  obtain ⟨i', j', k', rfl, rfl, rfl, fin⟩ := ok _ _ _ e3
  obtain ⟨v, h1, h2⟩ := R.ent _ _ g
  cases h2
  refine ⟨_, h1, P, F, ρ, r, ρ1, R, e1, fun v H1 F1 l1 R1 q1 => ?_⟩
  have := (look_pk R1 q1 e2).int
  subst this
  have hl : i < ρ1.length := by rw [R1.len, ← R.len]; exact get_lt g
  exact fin H1 _ (k _ H1 F1 l1 (R1.store hl (sv := .val (.int k')) (.int k') (fun z => by cases z)))
theorem ps_dSetIx {i : Nat} {x : Str} {k : Expr} {dk dv : ME} {v : Expr} {p spos : Pos} (hx : PE X (.Name x p) (tVar i)) (hn : notSlice k = true) (hk : PE X k (rdE T B dk)) (hv : PE X v (rdE T B dv))
    (hs : swapsWithSole [.Subscript (.Name x p) k spos] v pos.line X.env = pure false) (hw : swappedStores [.Subscript (.Name x p) k spos] v X.env = pure none) :
    PS X (.Assign [.Subscript (.Name x p) k spos] v pos) (rdS T B (sSetIx i dk dv)) := by
  refine PS.imp (ps_asg hv (pg_sub hx hk set_list (by
    intro w
    cases k with
    | Slice _ _ _ _ => cases hn
    | _ => rfl)) hs hw rfl) fun D σ H h => ?_
  obtain ⟨P, F, ρ, fl, ρ', R, ev, kk⟩ := h
  unfold sSetIx at ev
  split at ev
  · cases ev
  · rename_i rv ρ1 e1
    split at ev
    · rename_i hs0
      obtain ⟨c0, g0⟩ := Option.isSome_iff_exists.mp hs0
      split at ev
      · rename_i j ρ2 e2
        split at ev
        · cases ev
        · rename_i d ρ3 e3
          split at ev
          · rename_i c g
            split at ev
            · cases ev
            · rename_i c' e4
              cases ev
              refine ⟨P, F, ρ, rv, ρ1, R, e1, fun v H1 F1 l1 R1 q1 => ?_⟩
              obtain ⟨w, a1, _⟩ := R1.ent i c0 g0
              refine ⟨w, a1, LH.pin P H1 rv v, F1, ρ1, _, ρ2, R1.pin q1, e2, fun vb H2 F2 l2 R2 q2 => ?_⟩
              cases q2
              have sb : Sub P (LH.pin P H1 rv v) := pin_sub R1
              have q1' := q1.keep R1 R2 l2
              obtain ⟨F3, l3, R3, rp, _, _⟩ := share_ok (R2.less sb) q1' e3
              have fin : ∀ xs n, (c = .own xs ∧ c' = .own (xs.set n d)) ∨ (c = .io xs ∧ c' = .io (xs.set n d)) → L2.ixN xs.length j = some n → rSetL w (.int j) v H2 fun H3 => D.nx σ H3 := fun xs n hc hn => by
                obtain ⟨a, vs, o, _⟩ := R3.ownAt (sv := c) (xs := xs) g (by rcases hc with ⟨h, _⟩ | ⟨h, _⟩; exact .inl h; exact .inr h)
                have := o.at_
                rw [a1] at this
                cases this
                refine ⟨a, vs, j, n, rfl, rfl, o.hp, by rw [o.rl.length]; exact hn, ?_⟩
                exact kk σ _ F3 ((l1.trans (l2.less sb)).trans l3) (R3.write g o (o.rl.set rp n) hc)
              unfold setAt at e4
              split at e4
              · rename_i xs
                obtain ⟨n, hn, rfl⟩ := Option.map_eq_some_iff.mp e4
                exact fin xs n (.inl ⟨rfl, rfl⟩) hn
              · rename_i xs
                obtain ⟨n, hn, rfl⟩ := Option.map_eq_some_iff.mp e4
                exact fin xs n (.inr ⟨rfl, rfl⟩) hn
              · cases e4
          · cases ev
      · cases ev
    · cases ev
/-! in, len -/
def notSetE : Expr → Bool
  | .Set _ _ _ => false
  | _ => true
theorem markNo {op : CmpOp} {b : Expr} (h : notSetE b = true) : behindInMarks op b = false := by
  cases b <;> first | rfl | cases h
theorem both_in (hu : X.A.units + 65 < cLine) (neg : Bool) (hm : notSetE b = true) (ha : PE X a (rdE T B da)) (hb : PE X b (rdE T B db)) : Both X T B (.Compare a [opC (if neg then .notin else .isin)] [b] pos) (dIn neg da db) :=
  ⟨_, pe_cmpR (op_C hu _) ha hb (markNo hm), pt_cmpR (op_C hu _) ha hb (markNo hm), fun σ H Q h => by
    obtain ⟨P, F, ρ, r, ρ', R, ev, k⟩ := h
    unfold dIn at ev
    split at ev
    · cases ev
    · rename_i ra ρ1 e1
      split at ev
      · cases ev
      · rename_i rb ρ2 e2
        split at ev
        · rename_i x y e3 e4
          split at ev
          · cases ev
          · rename_i r' e5
            cases ev
            refine ⟨P, F, ρ, ra, ρ1, R, e1, fun va H1 F1 l1 R1 q1 => ?_⟩
            refine ⟨LH.pin P H1 ra va, F1, ρ1, rb, _, R1.pin q1, e2, fun vb H2 F2 l2 R2 q2 => ?_⟩
            have sb : Sub P (LH.pin P H1 ra va) := pin_sub R1
            have q1' := q1.keep R1 R2 l2
            obtain ⟨d, rfl, e6⟩ := lookO_data R2 q2 e4
            have e5 : rB (fCmp (if neg then .notin else .isin) x d) = some r := e5
            obtain ⟨kk, hk, rfl⟩ := Option.map_eq_some_iff.mp e5
            refine cmp_ok _ R2 (look_pk (R2.less sb) q1' e3) (look_pk R2 q2 e6) hk ?_
            exact k _ H2 F2 (l1.trans (l2.less sb)) (R2.less sb) (.bl _)
        · cases ev⟩
/-! built-ins by name -/
theorem rd_cb1 {fd : D → Option R} {rr : V → Hp → VK → Prop} {σ : St} {H : Hp} {Q : VK} (s : Serves1 rr fd) (h : rdE T B (dOp1 fd da) σ H Q) : tCB (fun xs H Q => ∃ v, xs = [v] ∧ rr v H Q) (rdA T B [da]) σ H Q := by
  obtain ⟨P, F, ρ, r, ρ', R, ev, k⟩ := h
  obtain ⟨ra, x, e1, e2, e3⟩ := dOp1_some ev
  refine ⟨P, F, ρ, [ra], ρ', R, by unfold dArgs; rw [e1]; rfl, fun vs H1 F1 l1 R1 q1 => ?_⟩
  obtain ⟨v, rfl, q2⟩ := repRs1 q1
  exact ⟨v, rfl, s T B P F1 H1 ρ' σ x v r Q R1 (look_pk R1 q2 e2) e3 fun v H' F' l R' q => k v H' F' (l1.trans l) R' q⟩
theorem crImp {f : Value} {r r' : List V → Hp → VK → Prop} (h : CallR X f r) (i : ∀ xs H Q, r' xs H Q → r xs H Q) : CallR X f r' := fun pins s σ H xs us Q I rv q => h pins s σ H xs us Q I rv (i xs H Q q)
section
variable (hst : starEach [a] X.env = (false, eval a X.env) :: starEach [] X.env) (ha : PA X [a] (rdA T B [da]))
include hst ha
theorem pe_dInt1 {p : Pos} (hg : Gl X "int") (hm : X.mg "int" = none) : PE X (.Call (.Name "int" p) [a] [] pos) (rdE T B (dOp1 fInt da)) :=
  PE.imp (pe_callTy (crImp call_int1 (fun xs H Q h => by
    obtain ⟨v, rfl, h⟩ := h
    rcases h with ⟨i, rfl, q⟩ | ⟨k, rfl, q⟩
    · exact .inl ⟨i, rfl, q⟩
    · exact .inr ⟨k, rfl, q⟩)) hg hm (by decide +kernel) ha (he := hst) (hpl := rfl)) fun σ H Q h => rd_cb1 sv_int h
theorem pe_dAbs {p : Pos} (hg : Gl X "abs") (hm : X.mg "abs" = none) : PE X (.Call (.Name "abs" p) [a] [] pos) (rdE T B (dOp1 fAbs da)) :=
  PE.imp (pe_callB (crImp call_abs (fun xs H Q h => by
    obtain ⟨v, rfl, i, rfl, q⟩ := h
    exact ⟨i, rfl, q⟩)) hg hm (by decide +kernel) ha (he := hst) (hpl := rfl)) fun σ H Q h => rd_cb1 sv_abs h
theorem pe_dLen {p : Pos} (hg : Gl X "len") (hm : X.mg "len" = none) : PE X (.Call (.Name "len" p) [a] [] pos) (rdE T B (dLen da)) :=
  PE.imp (pe_callB call_len hg hm (by decide +kernel) ha (he := hst) (hpl := rfl)) fun σ H Q h => by
    obtain ⟨P, F, ρ, r, ρ', R, ev, k⟩ := h
    unfold dLen at ev
    split at ev
    · cases ev
    · rename_i ra ρ1 e1
      split at ev
      · cases ev
      · rename_i x e2
        split at ev
        · cases ev
        · rename_i r' e3
          cases ev
          refine ⟨P, F, ρ, [ra], _, R, by unfold dArgs; rw [e1]; rfl, fun vs H1 F1 l1 R1 q1 => ?_⟩
          obtain ⟨v, rfl, q2⟩ := repRs1 q1
          obtain ⟨d, rfl, e4⟩ := lookO_data R1 q2 e2
          obtain ⟨n, h1, h2⟩ := sv_len (X := X) T B P F1 H1 _ σ d v r Q R1 (look_pk R1 q2 e4) e3 fun v H' F' l R' q => k v H' F' (l1.trans l) R' q
          exact ⟨v, n, rfl, h1, h2⟩
end
theorem dOp2_args {f : D → D → Option R} {ρ ρ2 : Env} {r : R} (h : dOp2 f da db ρ = some (r, ρ2)) : ∃ ra rb x y, dArgs [da, db] ρ = some ([ra, rb], ρ2) ∧ look ra ρ2 = some x ∧ look rb ρ2 = some y ∧ f x y = some r := by
  obtain ⟨ra, ρ1, rb, x, y, e1, e2, e3, e4, e5⟩ := dOp2_some h
  refine ⟨ra, rb, x, y, ?_, e3, e4, e5⟩
  unfold dArgs
  rw [e1]
  dsimp only
  unfold dArgs
  rw [e2]
  rfl
theorem rd_cb2 {f : D → D → Option R} {rr : R2} {σ : St} {H : Hp} {Q : VK} (s : Serves2 rr f) (h : rdE T B (dOp2 f da db) σ H Q) : tCB (fun xs H Q => ∃ v w, xs = [v, w] ∧ rr v w H Q) (rdA T B [da, db]) σ H Q := by
  obtain ⟨P, F, ρ, r, ρ', R, ev, k⟩ := h
  obtain ⟨ra, rb, x, y, e1, e2, e3, e4⟩ := dOp2_args ev
  refine ⟨P, F, ρ, [ra, rb], ρ', R, e1, fun vs H1 F1 l1 R1 q1 => ?_⟩
  obtain ⟨v, w, rfl, q2, q3⟩ := repRs2 q1
  have sb : Sub P (LH.pin P H1 ra v) := pin_sub R1
  have p2 := look_pk (R1.pin q2) q3 e3
  exact ⟨v, w, rfl, s T B P F1 H1 ρ' σ x y v w r Q R1 (look_pk R1 q2 e2) p2 e4 fun v H' F' l R' q => k v H' F' (l1.trans l) R' q⟩
section
variable (hc : X.calm = true) (hst : starEach (a :: [b]) X.env = (false, eval a X.env) :: starEach [b] X.env) (hpl : (backTo pos (starEach [b] X.env)).any (·.1) = false) (ha : PA X [a, b] (rdA T B [da, db]))
include hc hst hpl ha
theorem pe_dMin2 {p : Pos} (hg : Gl X "min") (hm : X.mg "min" = none) : PE X (.Call (.Name "min" p) [a, b] [] pos) (rdE T B (dOp2 fMin2 da db)) :=
  PE.imp (pe_callB (crImp (call_min2 hc) (fun xs H Q h => by
    obtain ⟨v, w, rfl, i, j, rfl, rfl, q⟩ := h
    exact ⟨i, j, rfl, q⟩)) hg hm (by decide +kernel) ha (he := hst) (hpl := hpl)) fun σ H Q h => rd_cb2 sv_min2 h
theorem pe_dMax2 {p : Pos} (hg : Gl X "max") (hm : X.mg "max" = none) : PE X (.Call (.Name "max" p) [a, b] [] pos) (rdE T B (dOp2 fMax2 da db)) :=
  PE.imp (pe_callB (crImp (call_max2 hc) (fun xs H Q h => by
    obtain ⟨v, w, rfl, i, j, rfl, rfl, q⟩ := h
    exact ⟨i, j, rfl, q⟩)) hg hm (by decide +kernel) ha (he := hst) (hpl := hpl)) fun σ H Q h => rd_cb2 sv_max2 h
end
end
end LH
end

section
set_option Elab.async false
set_option linter.all false
set_option maxRecDepth 100000
set_option maxHeartbeats 1000000
/-! isinstance; user calls. -/
namespace LH
open PySem PySem.Spec L2
section
variable {X : Cx} {T : TL} {B : Option Addr} {a b c e tg : Expr} {da db dc : ME} {pos : Pos}
def tTyp (n : String) : TE := fun σ H Q => Q (.ty n) H
theorem pe_tyName {x : Str} {n : String} {p : Pos} (hg : Gl X x) (hm : X.mg x = none) (hv : bootBuiltins x = some (.type n)) (hn : x ≠ "__name__") (hd : (x == ("__debug__" : Str)) = false) : PE X (.Name x p) (tTyp n) :=
  ⟨fun pins s σ H Q I h => ld_blt I hg hm hv ⟨.ty n, H, I, rfl, h⟩ hn hd⟩
theorem boot_ty (ty : Ty) : bootBuiltins (Str.ofString (tyName ty)) = some (.type (tyName ty)) ∧ (Str.ofString (tyName ty)) ≠ "__name__" ∧ (Str.ofString (tyName ty) == ("__debug__" : Str)) = false := by cases ty <;> decide +kernel
theorem pe_dIsI {ty : Ty} {p q : Pos} (hg : Gl X "isinstance") (hm : X.mg "isinstance" = none) (hg2 : Gl X (Str.ofString (tyName ty))) (hm2 : X.mg (Str.ofString (tyName ty)) = none)
    (hst : starEach [a, .Name (Str.ofString (tyName ty)) q] X.env = (false, eval a X.env) :: starEach [.Name (Str.ofString (tyName ty)) q] X.env) (hpl : (backTo pos (starEach [.Name (Str.ofString (tyName ty)) q] X.env)).any (·.1) = false)
    (ha : PE X a (rdE T B da)) : PE X (.Call (.Name "isinstance" p) [a, .Name (Str.ofString (tyName ty)) q] [] pos) (rdE T B (dOp1 (fIsI ty) da)) := by
  obtain ⟨h1, h2, h3⟩ := boot_ty ty
  refine PE.imp (pe_callB call_isi hg hm (by decide +kernel) (pa_cons ha (pa_cons (pe_tyName hg2 hm2 h1 h2 h3) pa_nil rfl) hst) (he := hst) (hpl := hpl)) fun σ H Q h => ?_
  obtain ⟨P, F, ρ, r, ρ', R, ev, k⟩ := h
  obtain ⟨ra, x, e1, e2, e3⟩ := dOp1_some ev
  refine ⟨P, F, ρ, ra, ρ', R, e1, fun v H1 F1 l1 R1 q1 => ?_⟩
  obtain ⟨t, bb, z1, z2, z3⟩ := sv_isI (X := X) ty T B P F1 H1 ρ' σ x v r Q R1 (look_pk R1 q1 e2) e3 fun v H' F' l R' q => k v H' F' (l1.trans l) R' q
  exact ⟨v, .ty (tyName ty), t, .type (tyName ty), bb, rfl, .ty _, z1, z2, z3⟩
theorem pa_dNil : PA X [] (rdA T B []) := PA.imp pa_nil fun σ H Q h => rd_args_nil h
theorem pa_dCons {es : List Expr} {ds : List ME} (ha : PE X a (rdE T B da)) (hr : PA X es (rdA T B ds)) (hs : starEach (a :: es) X.env = (false, eval a X.env) :: starEach es X.env) : PA X (a :: es) (rdA T B (da :: ds)) :=
  PA.imp (pa_cons ha hr hs) fun σ H Q h => rd_args_cons h
theorem pe_dTup {es : List Expr} {ds : List ME} {k : Nat} (hr : PA X es (rdA T B ds)) (h : PE X (.Tuple es k pos) (tTup (rdA T B ds))) : PE X (.Tuple es k pos) (rdE T B (dTup ds)) := PE.imp h fun σ H Q h => rd_tup h
/-- a def that can be called -/
structure UFn (X : Cx) (x : Str) (sp : Sp) : Prop where
  can : ∃ (k : Nat) (f : Addr) (fd : FuncData) (ps : List Str), FnOk X.prog X.w X.K X.mg X.base CX0 k f fd ps sp ∧ Room k X.A ∧ X.mg x = some (.ref f) ∧ PySem.W.keepIn X.K (.ref f) = true ∧ Binds X.K fd ps []
theorem pe_dCall0 {x : Str} {p : Pos} {f : List D → Option (R × List D)} (U : UFn X x (spP T f)) (hg : Gl X x) (hd : (x == ("__debug__" : Str)) = false) : PE X (.Call (.Name x p) [] [] pos) (rdE T B (dCall f [])) := by
  obtain ⟨k, fa, fd, ps, F, hr, hm, hk, hb⟩ := U.can
  refine PE.imp (pe_call0 (E := E0) F hr hg hm hk hb .nil pass0 hd) fun σ H Q h => ?_
  exact rd_args_nil (rd_call (E := E0) h)
theorem pe_dCall {x : Str} {p : Pos} {f : List D → Option (R × List D)} {es : List Expr} {ds : List ME} (U : UFn X x (spP T f)) (hg : Gl X x) (hd : (x == ("__debug__" : Str)) = false) (ha : PA X (e :: es) (rdA T B ds))
    (he : starEach (e :: es) X.env = (false, eval e X.env) :: starEach es X.env) (hpl : (backTo pos (starEach es X.env)).any (·.1) = false) : PE X (.Call (.Name x p) (e :: es) [] pos) (rdE T B (dCall f ds)) := by
  obtain ⟨k, fa, fd, ps, F, hr, hm, hk, hb⟩ := U.can
  exact PE.imp (pe_call (E := E0) F hr hg hm hk hb .nil pass0 ha hd he hpl) fun σ H Q h => rd_call (E := E0) h
end
/-- all but what is at a -/
def butH (H : Hp) (a : Addr) : Hp := fun b => if b = a then none else allH H b
theorem upd_back {H : Hp} {a : Addr} {o u : HO} (h : H a = some u) : upd (upd H a o) a u = H := by
  funext b
  by_cases hb : b = a
  · subst hb; rw [upd_same, h]
  · rw [upd_ne hb, upd_ne hb]
section
variable {T : TL} {B : Option Addr} {P F F' H H' : Hp} {ρ : Env} {σ : St}
theorem Rel.bareBut (R : Rel T B P F H ρ σ) (a : Addr) : Rel T none (butH H a) F H [] [] where
  fh := R.fh
  ph := fun b o e => by
    unfold butH at e
    split at e
    · cases e
    · exact (allH_of e).1
  len := rfl
  ent := fun i sv g => (nothing g).elim
  dist := fun i j sv sv' a g => (nothing g).elim
  tabs := R.tabs
  ptab := fun b o e => by
    unfold butH at e
    split at e
    · cases e
    · exact (allH_of e).2
  ftab := R.ftab
/-- behind a call that changed the list of slot i -/
theorem Rel.afterIO (R : Rel T B P F H ρ σ) {i : Nat} {sv sv' : SV} {xs ys : List D} {a : Addr} {vs us : List V} (g : get ρ i = some sv) (o : OwnAt F P H σ i xs a vs) (e : (sv = .own xs ∧ sv' = .own ys) ∨ (sv = .io xs ∧ sv' = .io ys))
    (l : Le (butH H a) F F') (R' : Rel T none (butH H a) F' H' [] []) (ha : H' a = some (.lst us)) (rl : RpL F' us ys) (fa : F' a = none) : Rel T B P F' H' (ρ.set i (some sv')) σ := by
  have h1 : Rel T B P F' (upd H' a (.lst vs)) ρ σ := by
    refine R.after l.up (fun b u q => ?_) (fun b u q => ?_) (fun b z1 z2 z3 => ?_) (R'.tabs.heap fun p ps q1 => ?_) R'.ftab
    · rw [upd_ne]
      · exact R'.fh b u q
      · rintro rfl; rw [fa] at q; cases q
    · by_cases hb : b = a
      · subst hb
        rw [allH_some o.hp (fun ps z => by cases z)] at q
        cases q
        exact upd_same
      · rw [upd_ne hb]
        refine R'.ph b u ?_
        unfold butH
        rw [if_neg hb]
        exact q
    · by_cases hb : b = a
      · subst hb; exact fa
      · cases e2 : H b with
        | none => exact absurd e2 z2
        | some u =>
          obtain ⟨ws, rfl⟩ := z3 u e2
          rw [l.at_ b]
          · exact z1
          · unfold butH
            rw [if_neg hb, allH_some e2 (fun ps z => by cases z)]
            exact fun z => by cases z
    · rw [upd_ne]
      · exact q1
      · rintro rfl; rw [ha] at q1; cases q1
  have o1 : OwnAt F' P (upd H' a (.lst vs)) σ i xs a vs := ⟨o.at_, upd_same, o.rl.mono l.up, fa, o.pr⟩
  have h2 := h1.write g o1 rl e
  rw [upd_back ha] at h2
  exact h2
theorem rd_callIO {f : List D → Option (R × List D)} {i : Nat} {es : List ME} {Q : VK} {E : XK} (h : rdE T B (dCallIO f i es) σ H Q) : tCall (spIO T f) [] E (tCons (tVar i) (rdA T B es)) σ H Q := by
  obtain ⟨P, F, ρ, r, ρ', R, ev, k⟩ := h
  unfold dCallIO at ev
  split at ev
  · rename_i hs0
    obtain ⟨c0, g0⟩ := Option.isSome_iff_exists.mp hs0
    obtain ⟨w, a1, _⟩ := R.ent i c0 g0
    split at ev
    · cases ev
    · rename_i rs ρ1 e1
      split at ev
      · cases ev
      · rename_i ds ρ2 e2
        have fin : ∀ (xs ys : List D) (sv sv' : SV), get ρ2 i = some sv → ((sv = .own xs ∧ sv' = .own ys) ∨ (sv = .io xs ∧ sv' = .io ys)) → f (.list xs :: ds) = some (r, ys) → noSlot r → ρ' = ρ2.set i (some sv') → tCall (spIO T f) [] E (tCons (tVar i) (rdA T B es)) σ H Q := fun xs ys sv sv' g hc e3 ns eρ => by
          refine ⟨w, a1, P, F, ρ, rs, ρ1, R, e1, fun vs H1 F1 l1 R1 q1 => ?_⟩
          obtain ⟨F2, l2, R2, rl, ho⟩ := shares_ok R1 q1 e2
          obtain ⟨a, ws, o, _⟩ := R2.ownAt (sv := sv) (xs := xs) g (by rcases hc with ⟨h, _⟩ | ⟨h, _⟩; exact .inl h; exact .inr h)
          have ea := o.at_
          rw [a1] at ea
          cases ea
          rw [List.append_nil]
          refine ⟨butH H1 a, F2, a, ws, xs, vs, ds, r, ys, rfl, o.hp, o.rl, o.fr, by unfold butH; rw [if_pos rfl], R2.bareBut a, rl, e3, ns, fun v H' F' us' l3 R3 h1 h2 h3 q3 => ?_⟩
          subst eρ
          have R4 := R2.afterIO g o hc l3 R3 h1 h2 h3
          have pn : ∀ b, b ≠ a → butH H1 a b = none → P b = none := fun b hb z => by
            unfold butH at z
            rw [if_neg hb] at z
            cases e : P b with
            | none => rfl
            | some u => rw [R1.allP b u e] at z; cases z
          refine k v H' F' ((l1.trans l2).trans ⟨l3.up, fun b hp => ?_⟩) R4 ?_
          · by_cases hb : b = a
            · subst hb; exact absurd o.pr hp
            · exact l3.at_ b fun z => hp (pn b hb z)
          · cases r with
            | val d => exact q3
            | slot j => exact ns.elim
            | tdc kvs => obtain ⟨b, _, z, _⟩ := q3; exact z.elim
            | tmp zs =>
              obtain ⟨b, bs, z1, z2, z3, z4, z5, z6⟩ := q3
              have hb : b ≠ a := by rintro rfl; rw [upd_same] at z5; cases z5
              rw [upd_ne hb] at z5
              refine ⟨b, bs, z1, z2, z3, z4, pn b hb z5, fun j sw gj oj ej => ?_⟩
              by_cases hj : i = j
              · subst hj
                rw [a1] at ej
                cases ej
                exact hb rfl
              · rw [get_set_ne hj] at gj
                obtain ⟨u, g1, g2⟩ := R2.ent j sw gj
                rw [ej] at g1
                cases g1
                have live : ∃ ls, H1 b = some (.lst ls) := by
                  cases sw with
                  | val d => cases oj
                  | own l => obtain ⟨_, ls, q1, q2, _⟩ := g2; cases q1; exact ⟨ls, q2⟩
                  | io l => obtain ⟨_, ls, q1, q2, _⟩ := g2; cases q1; exact ⟨ls, q2⟩
                  | dc l => obtain ⟨_, q1, q2, _⟩ := g2; exact q2.elim
                obtain ⟨ls, hl⟩ := live
                unfold butH at z5
                rw [if_neg hb, allH_some hl (fun ps z => by cases z)] at z5
                cases z5
        split at ev
        · rename_i xs g
          split at ev
          · cases ev
          · cases ev
          · rename_i r' ys ns e3
            cases ev
            refine fin xs ys _ _ g (.inl ⟨rfl, rfl⟩) e3 ?_ rfl
            cases r with
            | slot i => exact absurd rfl (ns i)
            | _ => trivial
        · rename_i xs g
          split at ev
          · cases ev
          · cases ev
          · rename_i r' ys ns e3
            cases ev
            refine fin xs ys _ _ g (.inr ⟨rfl, rfl⟩) e3 ?_ rfl
            cases r with
            | slot i => exact absurd rfl (ns i)
            | _ => trivial
        · cases ev
  · cases ev
end
theorem pe_dCallIO {X : Cx} {T : TL} {B : Option Addr} {x y : Str} {p q pos : Pos} {f : List D → Option (R × List D)} {i : Nat} {es : List Expr} {ds : List ME} (U : UFn X x (spIO T f)) (hg : Gl X x) (hd : (x == ("__debug__" : Str)) = false) (hy : PE X (.Name y q) (tVar i)) (ha : PA X es (rdA T B ds))
    (he : starEach (.Name y q :: es) X.env = (false, eval (.Name y q) X.env) :: starEach es X.env) (hpl : (backTo pos (starEach es X.env)).any (·.1) = false) : PE X (.Call (.Name x p) (.Name y q :: es) [] pos) (rdE T B (dCallIO f i ds)) := by
  obtain ⟨k, fa, fd, ps, F, hr, hm, hk, hb⟩ := U.can
  exact PE.imp (pe_call (E := E0) F hr hg hm hk hb .nil pass0 (pa_cons hy ha he) hd he hpl) fun σ H Q h => rd_callIO (E := E0) h
end LH
end

section
set_option Elab.async false
set_option linter.all false
set_option maxRecDepth 100000
set_option maxHeartbeats 1000000
/-! List comprehensions of any number of clauses. -/
namespace LH
open PySem PySem.Spec L2
theorem turn_last {elt : Expr} {gens : List Comprehension} {scope : Scope} {pos : Pos} {d : Nat} {it acc : Value} {env : PySem.Env} {t i : Expr} {ifs : List Expr} (h : gens[d]? = some ⟨t, i, ifs, 0⟩) (h2 : gens[d + 1]? = none) :
    compTurn (.ListComp elt gens scope pos) d it acc env = (do
      standAt i.pos
      match ← pyNext it with
      | none => pure (.done .next)
      | some v =>
        letOwnedTupleGo t it v
        assign t env v
        let mut ok := true
        for c in ifs do
          if ok then ok ← isTrue c env (eval c env)
        if ok then
          (do let _ ← call (.builtin "list.append") [acc, ← eval elt env])
        again (.compLoop (.ListComp elt gens scope pos) d it acc env)) := by
  unfold compTurn
  simp only [h, h2]
  rfl
theorem turn_more {elt : Expr} {gens : List Comprehension} {scope : Scope} {pos : Pos} {d : Nat} {it acc : Value} {env : PySem.Env} {t i t1 i1 : Expr} {ifs ifs1 : List Expr} (h : gens[d]? = some ⟨t, i, ifs, 0⟩) (h2 : gens[d + 1]? = some ⟨t1, i1, ifs1, 0⟩) :
    compTurn (.ListComp elt gens scope pos) d it acc env = (do
      standAt i.pos
      match ← pyNext it with
      | none => pure (.done .next)
      | some v =>
        letOwnedTupleGo t it v
        assign t env v
        let mut ok := true
        for c in ifs do
          if ok then ok ← isTrue c env (eval c env)
        if ok then
          let x ← eval i1 env
          standAt i1.pos
          let x ← foldedSetIterable i1 env x
          let _ ← runOwn (.compStart (.ListComp elt gens scope pos) (d + 1) (← holding [x] (pyIter x)) acc env) env
        again (.compLoop (.ListComp elt gens scope pos) d it acc env)) := by
  unfold compTurn
  simp only [h, h2]
  rfl
theorem gturn_last {elt : Expr} {gens : List Comprehension} {scope : Scope} {pos : Pos} {d : Nat} {it acc : Value} {env : PySem.Env} {t i : Expr} {ifs : List Expr} (h : gens[d]? = some ⟨t, i, ifs, 0⟩) (h2 : gens[d + 1]? = none) :
    compTurn (.GeneratorExp elt gens scope pos) d it acc env = (do
      standAt i.pos
      match ← pyNext it with
      | none => pure (.done .next)
      | some v =>
        letOwnedTupleGo t it v
        assign t env v
        let mut ok := true
        for c in ifs do
          if ok then ok ← isTrue c env (eval c env)
        if ok then
          (do let v ← eval elt env; standAt elt.pos; let _ ← yieldOut env v)
        again (.compLoop (.GeneratorExp elt gens scope pos) d it acc env)) := by
  unfold compTurn
  simp only [h, h2]
  rfl
theorem gturn_more {elt : Expr} {gens : List Comprehension} {scope : Scope} {pos : Pos} {d : Nat} {it acc : Value} {env : PySem.Env} {t i t1 i1 : Expr} {ifs ifs1 : List Expr} (h : gens[d]? = some ⟨t, i, ifs, 0⟩) (h2 : gens[d + 1]? = some ⟨t1, i1, ifs1, 0⟩) :
    compTurn (.GeneratorExp elt gens scope pos) d it acc env = (do
      standAt i.pos
      match ← pyNext it with
      | none => pure (.done .next)
      | some v =>
        letOwnedTupleGo t it v
        assign t env v
        let mut ok := true
        for c in ifs do
          if ok then ok ← isTrue c env (eval c env)
        if ok then
          let x ← eval i1 env
          standAt i1.pos
          let x ← foldedSetIterable i1 env x
          let _ ← runOwn (.compStart (.GeneratorExp elt gens scope pos) (d + 1) (← holding [x] (pyIter x)) acc env) env
        again (.compLoop (.GeneratorExp elt gens scope pos) d it acc env)) := by
  unfold compTurn
  simp only [h, h2]
  rfl

section
variable {prog : Program} {w : World} {A : Around} {R : Result → Shared → Prop} {s : Shared} {elt : Expr} {gens : List Comprehension} {scope : Scope} {pos : Pos} {it acc : Value} {env : PySem.Env} {t i t1 i1 : Expr} {ifs ifs1 : List Expr} {d : Nat}
abbrev testsOf (ifs : List Expr) (env : PySem.Env) : Sem Bool := forIn ifs true fun c r => if r = true then do let ok ← isTrue c env (eval c env); pure (ForInStep.yield ok) else pure (ForInStep.yield r)
theorem loop_last (h : gens[d]? = some ⟨t, i, ifs, 0⟩) (h2 : gens[d + 1]? = none) (I : Nat → Shared → Prop)
    (step : ∀ n s, I n s → wpAny (model prog w) A (pyNext it) (fun r s₁ => match r with
      | none => R (.ok .next) s₁
      | some v => wpAny (model prog w) A (letOwnedTupleGo t it v) (fun _ s₁' => wpAny (model prog w) A (assign t env v) (fun _ s₂ =>
          wpAny (model prog w) A (testsOf ifs env) (fun ok s₃ =>
            if ok = true then wpAny (model prog w) A (eval elt env) (fun x s₄ =>
              wpAny (model prog w) A (call (.builtin "list.append") [acc, x]) (fun _ s₅ => ∃ m, m < n ∧ I m s₅) (fun _ _ => False) s₄) (fun _ _ => False) s₃
            else ∃ m, m < n ∧ I m s₃) (fun _ _ => False) s₂) (fun _ _ => False) s₁') (fun _ _ => False) s₁) (fun _ _ => False) s)
    (n : Nat) (hi : I n s) : codeAny (model prog w) A (.compLoop (.ListComp elt gens scope pos) d it acc env) R s := by
  refine codeAny_loop rfl I (fun n s hI => ?_) n hi
  show wpAny _ A ((compTurn (.ListComp elt gens scope pos) d it acc env).onRaise (fun x => do noteFrame x env; theTreesLotGoes x)) _ _ s
  refine wpAny_noted ?_
  rw [turn_last h h2]
  refine wpAny_bind (wpAny_standAt (wpAny_bind (thnF (step n s hI) fun r s₁ h₁ => ?_)))
  cases r with
  | none => exact wpAny_pure h₁
  | some v =>
    refine wpAny_bind (thnF h₁ fun _ s₁' h₁' => wpAny_bind (thnF h₁' fun _ s₂ h₂ => wpAny_bind (thnF h₂ fun ok s₃ h₃ => ?_)))
    cases ok with
    | false => exact wpAny_pure ⟨rfl, h₃⟩
    | true => exact wpAny_bind (wpAny_bind (thnF h₃ fun x s₄ h₄ => wpAny_bind (thnF h₄ fun _ s₅ h₅ => wpAny_pure (wpAny_pure ⟨rfl, h₅⟩))))
theorem loop_more (h : gens[d]? = some ⟨t, i, ifs, 0⟩) (h2 : gens[d + 1]? = some ⟨t1, i1, ifs1, 0⟩) (hs : ∀ x, foldedSetIterable i1 env x = pure x) (I : Nat → Shared → Prop)
    (step : ∀ n s, I n s → wpAny (model prog w) A (pyNext it) (fun r s₁ => match r with
      | none => R (.ok .next) s₁
      | some v => wpAny (model prog w) A (letOwnedTupleGo t it v) (fun _ s₁' => wpAny (model prog w) A (assign t env v) (fun _ s₂ =>
          wpAny (model prog w) A (testsOf ifs env) (fun ok s₃ =>
            if ok = true then wpAny (model prog w) A (eval i1 env) (fun x s₄ => wpAny (model prog w) A (pyIter x) (fun it1 s₅ =>
              codeAny (model prog w) A (.compStart (.ListComp elt gens scope pos) (d + 1) it1 acc env) (fun r s' => match r with
                | .ok _ => ∃ m, m < n ∧ I m s'
                | .error _ => False) s₅) (fun _ _ => False) s₄) (fun _ _ => False) s₃
            else ∃ m, m < n ∧ I m s₃) (fun _ _ => False) s₂) (fun _ _ => False) s₁') (fun _ _ => False) s₁) (fun _ _ => False) s)
    (n : Nat) (hi : I n s) : codeAny (model prog w) A (.compLoop (.ListComp elt gens scope pos) d it acc env) R s := by
  refine codeAny_loop rfl I (fun n s hI => ?_) n hi
  show wpAny _ A ((compTurn (.ListComp elt gens scope pos) d it acc env).onRaise (fun x => do noteFrame x env; theTreesLotGoes x)) _ _ s
  refine wpAny_noted ?_
  rw [turn_more h h2]
  refine wpAny_bind (wpAny_standAt (wpAny_bind (thnF (step n s hI) fun r s₁ h₁ => ?_)))
  cases r with
  | none => exact wpAny_pure h₁
  | some v =>
    refine wpAny_bind (thnF h₁ fun _ s₁' h₁' => wpAny_bind (thnF h₁' fun _ s₂ h₂ => wpAny_bind (thnF h₂ fun ok s₃ h₃ => ?_)))
    cases ok with
    | false => exact wpAny_pure ⟨rfl, h₃⟩
    | true =>
      refine wpAny_bind (thnF h₃ fun x s₄ h₄ => ?_)
      refine wpAny_bind (wpAny_standAt (wpAny_bind (wpAny_of_eq (hs x) (wpAny_bind (wpAny_holding (thnF h₄ fun it1 s₅ h₅ => ?_))))))
      refine wpAny_bind (wpAny_runOwn ?_)
      rw [Around.mark_none]
      refine codeAny_mono h₅ fun r s' hr => ?_
      cases r with
      | ok f =>
        first
          | exact wpAny_pure ⟨rfl, hr⟩
          | exact wpAny_bind (wpAny_pure (wpAny_pure ⟨rfl, hr⟩))
      | error e => exact hr.elim
theorem start_at (hd : gens[d]? = some ⟨t, i, ifs, 0⟩) (h0 : codeAny (model prog w) A (.compLoop (.ListComp elt gens scope pos) d it acc env) R s)
    (h : wpAny (model prog w) A (pyIter it) (fun it' s' => codeAny (model prog w) A (.compLoop (.ListComp elt gens scope pos) d it' acc env) R s') (fun _ _ => False) s) :
    codeAny (model prog w) A (.compStart (.ListComp elt gens scope pos) d it acc env) R s := by
  refine codeAny_of_tree ?_
  show wpAny _ _ ((compStart (.ListComp elt gens scope pos) d it acc env).onRaise (fun x => do noteFrame x env; standAt theWindowsPlace)) _ _ s
  refine wpAny_notedAt ?_
  have e : clausesOf (.ListComp elt gens scope pos) = gens := rfl
  unfold compStart
  simp only [e, hd]
  show wpAny _ _ (ask >>= _) _ _ s
  refine wpAny_bind (wpAny_askSetting (wpAny_ite ?_))
  split
  · first
      | exact wpAny_bind (wpAny_pure (wpAny_pure (And.intro rfl h0)))
      | exact wpAny_pure (And.intro rfl h0)
  · first
      | exact wpAny_bind (wpAny_rule (wpAny_bind (wpAny_standAt (wpAny_bind (thnF h fun it' s' h' => wpAny_pure (And.intro rfl h'))))))
      | (refine wpAny_bind (wpAny_rule ?_); show wpAny _ _ (standAt i.pos >>= _) _ _ s; exact wpAny_bind (wpAny_standAt (wpAny_bind (thnF h fun it' s' h' => wpAny_pure (And.intro rfl h')))))
end
end LH
end

section
set_option Elab.async false
set_option linter.all false
set_option maxRecDepth 100000
set_option maxHeartbeats 1000000
/-! A comprehension's loops, read. -/
namespace LH
open PySem PySem.Spec L2
theorem wipe_sub {σ σ' : St} {vs us : List Nat} (h : wipe σ vs = wipe σ' vs) (s : ∀ j ∈ vs, j ∈ us) : wipe σ us = wipe σ' us := by
  have hl : σ.length = σ'.length := by have := congrArg List.length h; rwa [wipe_length, wipe_length] at this
  refine List.ext_getElem? fun j => ?_
  rw [wipe_get, wipe_get]
  by_cases hj : j ∈ us
  · rw [if_pos hj, if_pos hj]
    by_cases lt : j < σ.length
    · rw [List.getElem?_eq_getElem lt, List.getElem?_eq_getElem (by omega)]; rfl
    · rw [List.getElem?_eq_none (by omega), List.getElem?_eq_none (by omega)]
  · rw [if_neg hj, if_neg hj]
    have : (wipe σ vs)[j]? = (wipe σ' vs)[j]? := by rw [h]
    rw [wipe_get, wipe_get, if_neg (fun z => hj (s j z)), if_neg (fun z => hj (s j z))] at this
    exact this
theorem wipe_idem {σ : St} {vs us : List Nat} (s : ∀ j ∈ vs, j ∈ us) : wipe (wipe σ vs) us = wipe σ us := by
  refine List.ext_getElem? fun j => ?_
  rw [wipe_get, wipe_get, wipe_get]
  by_cases hj : j ∈ us
  · rw [if_pos hj, if_pos hj]
    by_cases hv : j ∈ vs
    · rw [if_pos hv]; cases σ[j]? <;> rfl
    · rw [if_neg hv]
  · rw [if_neg hj, if_neg hj, if_neg fun z => hj (s j z)]
section
variable {T : TL} {B : Option Addr} {P P1 F F1 F2 H H1 H2 : Hp} {ρ ρ1 ρ2 ρ' : Env} {σ : St}
/-- a list that nobody of the frame holds is changed -/
theorem Rel.edit (R : Rel T B P F H ρ σ) {L : Addr} {xs ys : List V} (hD : H L = some (.lst xs)) (fD : F L = none) (pD : P L = none) (no : NotOwned ρ σ L) : Rel T B P F (upd H L (.lst ys)) ρ σ where
  fh := fun b u q => by
    rw [upd_ne]
    · exact R.fh b u q
    · rintro rfl; rw [fD] at q; cases q
  ph := fun b u q => by
    rw [upd_ne]
    · exact R.ph b u q
    · rintro rfl; rw [pD] at q; cases q
  len := R.len
  ent := fun i sv g => by
    obtain ⟨w, h1, h2⟩ := R.ent i sv g
    refine ⟨w, h1, ?_⟩
    have ne : ∀ b, w = .ref b → sv.isOwn = true → b ≠ L := fun b q o z => by subst z; subst q; exact no i sv g o h1
    cases sv with
    | val d => exact h2
    | own xs => obtain ⟨b, vs, q1, q2, q3, q4, q5⟩ := h2; exact ⟨b, vs, q1, by rw [upd_ne (ne b q1 rfl)]; exact q2, q3, q4, q5⟩
    | io xs => obtain ⟨b, vs, q1, q2, q3, q4, q5, q6⟩ := h2; exact ⟨b, vs, q1, by rw [upd_ne (ne b q1 rfl)]; exact q2, q3, q4, q5, q6⟩
    | dc kvs => obtain ⟨b, q1, q2, _⟩ := h2; exact q2.elim
  dist := R.dist
  tabs := R.tabs.heap fun p ps q1 => by
    rw [upd_ne]
    · exact q1
    · rintro rfl; rw [hD] at q1; cases q1
  ptab := R.ptab
  ftab := R.ftab
/-- the list that is being made -/
structure Mk (P F H : Hp) (ρ : Env) (σ : St) (L : Addr) (acc : List V) (ds : List D) : Prop where
  hp : H L = some (.lst acc)
  rl : RpL F acc ds
  fr : F L = none
  pr : P L = none
  no : NotOwned ρ σ L
/-- it is kept while an expression runs -/
theorem Mk.hold {L : Addr} {acc : List V} {ds : List D} (m : Mk P F H ρ σ L acc ds) (R : Rel T B P F H ρ σ) : Rel T B (upd P L (.lst acc)) F H ρ σ := R.more m.hp (fun ps z => by cases z) m.no
theorem hold_sub {L : Addr} {o : HO} (pr : P L = none) : Sub P (upd P L o) := sub_upd pr
theorem Mk.after {L : Addr} {acc : List V} {ds : List D} {σ1 : St} (m : Mk P F H ρ σ L acc ds) (R : Rel T B (upd P L (.lst acc)) F1 H1 ρ1 σ1) (l : Le (upd P L (.lst acc)) F F1) : Mk P F1 H1 ρ1 σ1 L acc ds :=
  have np : upd P L (.lst acc) L ≠ none := by rw [upd_same]; exact fun z => by cases z
  ⟨R.ph L _ upd_same, m.rl.mono l.up, (l.at_ L np).trans m.fr, m.pr, R.notOwned np⟩
/-- an item is put behind -/
theorem Mk.push {L : Addr} {acc : List V} {ds : List D} (m : Mk P F H ρ σ L acc ds) (R : Rel T B P F H ρ σ) {v : V} {d : LH.D} (rp : Rp F v d) : Rel T B P F (upd H L (.lst (acc ++ [v]))) ρ σ ∧ Mk P F (upd H L (.lst (acc ++ [v]))) ρ σ L (acc ++ [v]) (ds ++ [d]) :=
  ⟨R.edit m.hp m.fr m.pr m.no, upd_same, m.rl.append (.cons rp .nil), m.fr, m.pr, m.no⟩
end
def rdPTs (T : TL) (B : Option Addr) (X : Cx) (ifs : List Expr) (t : MT) : Prop := PTs X ifs (rdT T B t)
theorem PTs.imp {X : Cx} {e : List Expr} {t t' : TT} (h : PTs X e t) (i : ∀ σ H Q, t' σ H Q → t σ H Q) : PTs X e t' := ⟨fun pins s σ H Q I q => h.run pins s σ H Q I (i σ H Q q)⟩
/-- a clause, read -/
structure ClOk (T : TL) (B : Option Addr) (X : Cx) (c : Comprehension) (cl : Cl) : Prop where
  g : ∃ ts, (∀ j ∈ ts, j ∈ cl.ts) ∧ PG X c.target (rdG T B ts cl.g)
  it : PI X c.target c.iter (rdI T B cl.it)
  ifs : PTs X c.ifs (rdT T B cl.ifs)
  fold : ∀ x, foldedSetIterable c.iter X.env x = pure x
  asy : c.is_async = 0
inductive ClsOk (T : TL) (B : Option Addr) (X : Cx) : List Comprehension → List Cl → Prop
  | nil : ClsOk T B X [] []
  | cons {c : Comprehension} {cs : List Comprehension} {cl : Cl} {cls : List Cl} : ClOk T B X c cl → (∀ c' ∈ cls, ∀ j ∈ c'.ts, j ∈ cl.ts) → ClsOk T B X cs cls → ClsOk T B X (c :: cs) (cl :: cls)
theorem walk_cons {body : D → Env → Option (List D × Env)} {x : D} {xs ys : List D} {ρ ρ' : Env} (h : walk body (x :: xs) ρ = some (ys, ρ')) : ∃ y1 ρ1 y2, body x ρ = some (y1, ρ1) ∧ walk body xs ρ1 = some (y2, ρ') ∧ ys = y1 ++ y2 := by
  unfold walk at h
  split at h
  · cases h
  · rename_i y1 ρ1 e1
    split at h
    · cases h
    · rename_i y2 ρ2 e2
      cases h
      exact ⟨y1, ρ1, y2, e1, e2, rfl⟩
theorem turn_some {ts : List Nat} {g : MG} {ifs : MT} {rest : Env → Option (List D × Env)} {x : D} {ρ ρ' : Env} {ys : List D} (h : turn ts g ifs rest x ρ = some (ys, ρ')) :
    ∃ ρ1, g x (wipeE ρ ts) = some ρ1 ∧ ((ifs ρ1 = some (false, ρ') ∧ ys = []) ∨ ∃ ρ2, ifs ρ1 = some (true, ρ2) ∧ rest ρ2 = some (ys, ρ')) := by
  unfold turn at h
  split at h
  · cases h
  · rename_i ρ1 e1
    split at h
    · cases h
    · rename_i ρ2 e2
      cases h
      exact ⟨ρ1, e1, .inl ⟨e2, rfl⟩⟩
    · rename_i ρ2 e2
      exact ⟨ρ1, e1, .inr ⟨ρ2, e2, h⟩⟩
theorem emit_some {elt : ME} {ρ ρ' : Env} {ys : List D} (h : emit1 elt ρ = some (ys, ρ')) : ∃ r ρ1 d, elt ρ = some (r, ρ1) ∧ share r ρ1 = some (d, ρ') ∧ ys = [d] := by
  unfold emit1 at h
  split at h
  · cases h
  · rename_i r ρ1 e1
    split at h
    · cases h
    · rename_i d ρ2 e2
      cases h
      exact ⟨r, ρ1, d, e1, e2, rfl⟩
section
variable {X : Cx} {T : TL} {B : Option Addr} {elt : Expr} {dE : ME} {gens : List Comprehension} {scope : Scope} {pos : Pos}
/-- the loop of the clause at d, the clauses behind it told by cls -/
theorem lc_loop (hc : X.calm = true) (hxe : X.xe = fun _ _ => False) (he : PE X elt (rdE T B dE)) {L : Addr} : ∀ (cls : List Cl) (cs : List Comprehension), ClsOk T B X cs cls →
    ∀ (d : Nat) (t i : Expr) (ifs : List Expr) (ts vs : List Nat) (g : MG) (mt : MT), gens[d]? = some ⟨t, i, ifs, 0⟩ → gens.drop (d + 1) = cs →
      PG X t (rdG T B ts g) → (∀ j ∈ ts, j ∈ vs) → PTs X ifs (rdT T B mt) → (∀ c' ∈ cls, ∀ j ∈ c'.ts, j ∈ vs) →
      ∀ (it : Addr) (fp : List Addr) (tn : Nat → Heap → Prop) (J : It), Turn X.prog X.w X.K t J fp it tn →
      ∀ (pins : List (Addr × Obj)) (σw : St) (F0 P : Hp) (xs : List LH.D) (fin : List LH.D) (ρe : Env) (R : Result → Shared → Prop), GW F0 J xs → fin.length ≤ LIM →
      (∀ s H F ρ σp acc, Inv X pins σw H s → Le P F0 F → Rel T B P F H ρ σp → wipe σp vs = σw → ρ = ρe → Mk P F H ρ σp L acc fin → R (.ok .next) s) →
      ∀ (s : Shared) (H F : Hp) (ρ : Env) (σp : St) (acc : List V) (ds ys : List LH.D) (k : Nat), Inv X pins σw H s → tn k s.heap → (∀ b ∈ fp, FpOk X pins H b) → Le P F0 F → Rel T B P F H ρ σp → wipe σp vs = σw → Mk P F H ρ σp L acc ds → k ≤ xs.length →
        walk (turn vs g mt (clauses (emit1 dE) cls)) (xs.drop k) ρ = some (ys, ρe) → fin = ds ++ ys →
        codeAny (model X.prog X.w) X.A (.compLoop (.ListComp elt gens scope pos) d (.ref it) (.ref L) X.env) R s
  | cls, cs, hcls, d, t, i, ifs, ts, vs, g, mt, hd, hdrop, pg, hts, pt, hlat, it, fp, tn, J, Tn, pins, σw, F0, P, xs, fin, ρe, R, gw, hfin, hR, s, H, F, ρ, σp, acc, ds, ys, k, I, st, fps, l0, Re, hw, mk, hk, ev, hfs => by
    -- one turn, up to behind the tests
    have pre : ∀ (Qt : Bool → Shared → Prop) (s5 : Shared) (H5 F5 : Hp) (ρ5 : Env) (σ5 : St) (acc5 : List V) (ds5 ys5 : List LH.D) (k5 : Nat), Inv X pins σw H5 s5 → tn k5 s5.heap → (∀ b ∈ fp, FpOk X pins H5 b) → Le P F0 F5 → Rel T B P F5 H5 ρ5 σ5 → wipe σ5 vs = σw → Mk P F5 H5 ρ5 σ5 L acc5 ds5 → k5 ≤ xs.length →
        walk (turn vs g mt (clauses (emit1 dE) cls)) (xs.drop k5) ρ5 = some (ys5, ρe) → fin = ds5 ++ ys5 →
        (k5 < xs.length → ∀ (s9 : Shared) (H9 F9 : Hp) (ρ9 : Env) (σ9 : St) (b : Bool) (y1 y2 : List LH.D) (ρ10 : Env) (pl : List (Addr × Obj)), Inv X (pins ++ pl) σ9 H9 s9 → Le P F0 F9 → Rel T B P F9 H9 ρ9 σ9 → Off ts σw σ9 → Mk P F9 H9 ρ9 σ9 L acc5 ds5 →
          ((b = false ∧ y1 = [] ∧ ρ10 = ρ9) ∨ (b = true ∧ clauses (emit1 dE) cls ρ9 = some (y1, ρ10))) → walk (turn vs g mt (clauses (emit1 dE) cls)) (xs.drop (k5 + 1)) ρ10 = some (y2, ρe) → ys5 = y1 ++ y2 →
          (∀ {s' : Shared} {H' : Hp} {σ' : St}, Inv X (pins ++ pl) σ' H' s' → (∀ (j : Nat) v, σw[j]? = some (some v) → σ'[j]? = some (some v)) → σw.length = σ'.length → 
            Inv X pins σw H' s' ∧ tn (k5 + 1) s'.heap ∧ ∀ b ∈ fp, FpOk X pins H' b) → Qt b s9) →
        wpAny (model X.prog X.w) X.A (pyNext (.ref it)) (fun r s₁ => match r with
          | none => R (.ok .next) s₁
          | some v => wpAny (model X.prog X.w) X.A (letOwnedTupleGo t (.ref it) v) (fun _ s₁' => wpAny (model X.prog X.w) X.A (assign t X.env v) (fun _ s₂ =>
            wpAny (model X.prog X.w) X.A (testsOf ifs X.env) Qt (fun _ _ => False) s₂) (fun _ _ => False) s₁') (fun _ _ => False) s₁) (fun _ _ => False) s5 := by
      intro Qt s5 H5 F5 ρ5 σ5 acc5 ds5 ys5 k5 I5 st5 fp5 l5 R5 hw5 mk5 hk5 ev5 hf5 next
      by_cases lt : k5 < xs.length
      · have ti := Tn.item X rfl rfl rfl hc k5 pins s5 σw H5 (fun _ _ => False) I5 fp5 st5 (gw.goes k5 H5 lt (l5.up.trans R5.fh))
        refine thnF ti fun r s6 ⟨u, hr, h6⟩ => ?_
        subst hr
        refine thnF h6 fun _ s7 ⟨x, H7, I7, r7, y7, st7, n7⟩ => ?_
        have ex : xs[k5]? = some xs[k5] := List.getElem?_eq_getElem lt
        have R5h := mk5.hold R5
        have R5w : Rel T B (upd P L (.lst acc5)) F5 H5 (wipeE ρ5 vs) σw := by rw [← hw5]; exact R5h.wiped vs
        obtain ⟨F7, l7, R7, rp⟩ := gw.yields k5 _ H5 x H7 ex y7 T B _ F5 _ σw l5.up R5w
        have fp7 : ∀ b ∈ fp, FpOk X pins H7 b := fun b hb => ⟨n7 b hb, (fp5 b hb).2⟩
        have I7' := I7.pinned fp7 (Tn.obj _ _ st7)
        rw [List.drop_eq_getElem_cons lt] at ev5
        obtain ⟨y1, ρ10, y2, e1, e2, e3⟩ := walk_cons ev5
        obtain ⟨ρ8, e4, e5⟩ := turn_some e1
        have xe0 : ∀ {α : Type} {m : Sem α} {Q : α → Shared → Prop} {s : Shared}, wpAny (model X.prog X.w) X.A m Q X.xe s → wpAny (model X.prog X.w) X.A m Q (fun _ _ => False) s := fun h => by rw [hxe] at h; exact h
        refine thnF (xe0 (pg.run _ s7 σw H7 x u (fun σ8 H8 => H8 = H7 ∧ Off ts σw σ8 ∧ Rel T B (upd P L (.lst acc5)) F7 H8 ρ8 σ8) I7' r7 ⟨_, F7, _, _, ρ8, R7, rp, e4, fun σ8 o8 R8 => ⟨rfl, o8, R8⟩⟩)) fun _ s8 ⟨σ8, H8, I8, eH, o8, R8⟩ => ?_
        subst eH
        have done : ∀ (b : Bool) (s9 : Shared) (H9 F9 : Hp) (ρ9 : Env), mt ρ8 = some (b, ρ9) → Le (upd P L (.lst acc5)) F7 F9 → Rel T B (upd P L (.lst acc5)) F9 H9 ρ9 σ8 → Inv X (pins ++ pinsAt fp s7.heap) σ8 H9 s9 → Qt b s9 := fun b s9 H9 F9 ρ9 em l9 R9 I9 => by
          have sb : Sub P (upd P L (.lst acc5)) := hold_sub mk5.pr
          refine next lt s9 H9 F9 ρ9 σ8 b y1 y2 ρ10 (pinsAt fp s7.heap) I9 (l5.trans ((l7.trans l9).less sb)) (R9.less sb) o8 (mk5.after R9 (l7.trans l9)) ?_ e2 e3 ?_
          · rcases e5 with ⟨z1, z2⟩ | ⟨ρ2, z1, z2⟩
            · rw [em] at z1; cases z1; exact .inl ⟨rfl, z2, rfl⟩
            · rw [em] at z1; cases z1; exact .inr ⟨rfl, z2⟩
          · intro s' H' σ' I' hwk hlen
            have pin' : ∀ b ∈ fp, ∀ o, s7.heap.get? b = some o → s'.heap.get? b = some o ∧ H' b = none := fun b hb o e =>
              let z := I'.pin (b, o) (List.mem_append_right _ (List.mem_append_right _ (mem_pinsAt hb e)))
              ⟨z.1, z.2.1⟩
            refine ⟨(I'.unpinned (pins := pins)).weak hlen hwk, Tn.keep _ _ _ st7 fun b hb o e => (pin' b hb o e).1, fun b hb => ?_⟩
            obtain ⟨o, e, _⟩ := Tn.obj _ _ st7 b hb
            exact ⟨(pin' b hb o e).2, (fp7 b hb).2⟩
        have ht : rdT T B mt σ8 H8 (fun b H9 => ∃ F9 ρ9, mt ρ8 = some (b, ρ9) ∧ Le (upd P L (.lst acc5)) F7 F9 ∧ Rel T B (upd P L (.lst acc5)) F9 H9 ρ9 σ8) := by
          rcases e5 with ⟨z1, z2⟩ | ⟨ρ2, z1, z2⟩
          · exact ⟨_, F7, ρ8, _, _, R8, z1, fun H9 F9 l9 R9 => ⟨F9, _, z1, l9, R9⟩⟩
          · exact ⟨_, F7, ρ8, _, _, R8, z1, fun H9 F9 l9 R9 => ⟨F9, _, z1, l9, R9⟩⟩
        exact thnF (xe0 (pt.run _ s8 σ8 H8 _ I8 ht)) fun b s9 ⟨H9, I9, F9, ρ9, em, l9, R9⟩ => done b s9 H9 F9 ρ9 em l9 R9 I9
      · have e : k5 = xs.length := by omega
        subst e
        have td := Tn.done X rfl rfl rfl hc xs.length pins s5 σw H5 (fun _ _ => False) I5 fp5 st5 (gw.stops H5 (l5.up.trans R5.fh))
        refine thnF td fun r s6 ⟨hr, I6⟩ => ?_
        subst hr
        rw [List.drop_length] at ev5
        cases ev5
        rw [List.append_nil] at hf5
        subst hf5
        exact hR s6 H5 F5 _ σ5 acc5 I6 l5 R5 hw5 rfl mk5
    have weak2 : ∀ {σ9 : St}, Off ts σw σ9 → (∀ (j : Nat) v, σw[j]? = some (some v) → σ9[j]? = some (some v)) ∧ σw.length = σ9.length ∧ wipe σ9 vs = σw := fun {σ9} o9 => by
      have hwv : ∀ j ∈ vs, ∀ v, σw[j]? ≠ some (some v) := fun j hj v z => by
        rw [← hw, wipe_get, if_pos hj] at z
        cases e : σp[j]? with
        | none => rw [e] at z; cases z
        | some q => rw [e] at z; cases z
      refine ⟨fun j v z => ?_, o9.1.symm, ?_⟩
      · rw [o9.2 j fun hj => hwv j (hts j hj) v z]; exact z
      · rw [o9.wipe hts, ← hw]
        exact wipe_idem fun j hj => hj
    match cls, hcls with
    | [], .nil =>
      have h2 : gens[d + 1]? = none := by
        have : gens.length ≤ d + 1 := List.drop_eq_nil_iff.mp hdrop
        exact List.getElem?_eq_none this
      refine loop_last hd h2 (fun n s => ∃ k H F ρ σp acc ds ys, n = xs.length - k ∧ Inv X pins σw H s ∧ tn k s.heap ∧ (∀ b ∈ fp, FpOk X pins H b) ∧ Le P F0 F ∧ Rel T B P F H ρ σp ∧ wipe σp vs = σw ∧ Mk P F H ρ σp L acc ds ∧ k ≤ xs.length ∧
        walk (turn vs g mt (clauses (emit1 dE) [])) (xs.drop k) ρ = some (ys, ρe) ∧ fin = ds ++ ys) ?_ _ ⟨k, H, F, ρ, σp, acc, ds, ys, rfl, I, st, fps, l0, Re, hw, mk, hk, ev, hfs⟩
      rintro n s5 ⟨k5, H5, F5, ρ5, σ5, acc5, ds5, ys5, rfl, I5, st5, fp5, l5, R5, hw5, mk5, hk5, ev5, hf5⟩
      refine pre _ s5 H5 F5 ρ5 σ5 acc5 ds5 ys5 k5 I5 st5 fp5 l5 R5 hw5 mk5 hk5 ev5 hf5 fun lt s9 H9 F9 ρ9 σ9 b y1 y2 ρ10 pl I9 l9 R9 o9 mk9 alt ev9 hy back => ?_
      obtain ⟨wk1, wk2, wk3⟩ := weak2 o9
      have again : ∀ {s' : Shared} {H' F' : Hp} {ρ' : Env} {acc' : List V} {ds' : List LH.D}, Inv X (pins ++ pl) σ9 H' s' → Le P F0 F' → Rel T B P F' H' ρ' σ9 → Mk P F' H' ρ' σ9 L acc' ds' → walk (turn vs g mt (clauses (emit1 dE) [])) (xs.drop (k5 + 1)) ρ' = some (y2, ρe) → fin = ds' ++ y2 →
          ∃ m, m < xs.length - k5 ∧ ∃ k H F ρ σp acc ds ys, m = xs.length - k ∧ Inv X pins σw H s' ∧ tn k s'.heap ∧ (∀ b ∈ fp, FpOk X pins H b) ∧ Le P F0 F ∧ Rel T B P F H ρ σp ∧ wipe σp vs = σw ∧ Mk P F H ρ σp L acc ds ∧ k ≤ xs.length ∧
            walk (turn vs g mt (clauses (emit1 dE) [])) (xs.drop k) ρ = some (ys, ρe) ∧ fin = ds ++ ys := fun {s' H' F' ρ' acc' ds'} I' l' R' mk' e' f' => by
        obtain ⟨b1, b2, b3⟩ := back I' wk1 wk2
        exact ⟨xs.length - (k5 + 1), by omega, k5 + 1, H', F', ρ', σ9, acc', ds', y2, rfl, b1, b2, b3, l', R', wk3, mk', lt, e', f'⟩
      rcases alt with ⟨rfl, rfl, rfl⟩ | ⟨rfl, ec⟩
      · rw [if_neg Bool.false_ne_true]
        rw [List.nil_append] at hy
        subst hy
        exact again I9 l9 R9 mk9 ev9 hf5
      · rw [if_pos rfl]
        obtain ⟨r, ρ1, dd, e1, e2, rfl⟩ := emit_some ec
        have xe0 : ∀ {α : Type} {m : Sem α} {Q : α → Shared → Prop} {s : Shared}, wpAny (model X.prog X.w) X.A m Q X.xe s → wpAny (model X.prog X.w) X.A m Q (fun _ _ => False) s := fun h => by rw [hxe] at h; exact h
        refine thnF (xe0 (he.run _ s9 σ9 H9 (fun v H' => ∃ F', Le (upd P L (.lst acc5)) F9 F' ∧ Rel T B (upd P L (.lst acc5)) F' H' ρ1 σ9 ∧ RepR (upd P L (.lst acc5)) F' H' ρ1 σ9 r v) I9 ⟨_, F9, ρ9, r, ρ1, mk9.hold R9, e1, fun v H' F' l' R' q' => ⟨F', l', R', q'⟩⟩)) fun v s10 ⟨x, H10, I10, rx, F10, l10, R10, q10⟩ => ?_
        obtain ⟨F11, l11, R11, rp, _, _⟩ := share_ok R10 q10 e2
        have sb : Sub P (upd P L (.lst acc5)) := hold_sub mk9.pr
        have mk11 := mk9.after R11 (l10.trans l11)
        have R11' := R11.less sb
        have hlen : acc5.length < sizeLine := by
          rw [mk9.rl.length]
          have : fin.length ≤ sizeLine := by rw [← lim]; exact hfin
          rw [hf5, hy] at this
          simp only [List.length_append, List.length_cons, List.length_nil] at this
          omega
        refine app_ok I10 mk11.hp hlen rx fun s11 I11 => ?_
        obtain ⟨R12, mk12⟩ := mk11.push R11' rp
        exact again I11 (l9.trans ((l10.trans l11).less sb)) R12 mk12 ev9 (by rw [hf5, hy, List.append_assoc])
    | c' :: cls', .cons (c := cc) (cs := ccs) hok hsub hrest =>
      have h2 : gens[d + 1]? = some cc := by
        have := congrArg (fun l => l[0]?) hdrop
        simpa [List.getElem?_drop] using this
      obtain ⟨t1, i1, ifs1, as1⟩ := cc
      have as0 : as1 = 0 := hok.asy
      subst as0
      have hdrop' : gens.drop (d + 1 + 1) = ccs := by rw [← List.drop_drop, hdrop]; rfl
      refine loop_more hd h2 hok.fold (fun n s => ∃ k H F ρ σp acc ds ys, n = xs.length - k ∧ Inv X pins σw H s ∧ tn k s.heap ∧ (∀ b ∈ fp, FpOk X pins H b) ∧ Le P F0 F ∧ Rel T B P F H ρ σp ∧ wipe σp vs = σw ∧ Mk P F H ρ σp L acc ds ∧ k ≤ xs.length ∧
        walk (turn vs g mt (clauses (emit1 dE) (c' :: cls'))) (xs.drop k) ρ = some (ys, ρe) ∧ fin = ds ++ ys) ?_ _ ⟨k, H, F, ρ, σp, acc, ds, ys, rfl, I, st, fps, l0, Re, hw, mk, hk, ev, hfs⟩
      rintro n s5 ⟨k5, H5, F5, ρ5, σ5, acc5, ds5, ys5, rfl, I5, st5, fp5, l5, R5, hw5, mk5, hk5, ev5, hf5⟩
      refine pre _ s5 H5 F5 ρ5 σ5 acc5 ds5 ys5 k5 I5 st5 fp5 l5 R5 hw5 mk5 hk5 ev5 hf5 fun lt s9 H9 F9 ρ9 σ9 b y1 y2 ρ10 pl I9 l9 R9 o9 mk9 alt ev9 hy back => ?_
      obtain ⟨wk1, wk2, wk3⟩ := weak2 o9
      have sub1 : ∀ j ∈ c'.ts, j ∈ vs := fun j hj => hlat c' List.mem_cons_self j hj
      have again : ∀ {s' : Shared} {H' F' : Hp} {ρ' : Env} {σ' σq : St} {acc' : List V} {ds' : List LH.D}, Inv X (pins ++ pl) σ' H' s' → (∀ (j : Nat) v, σw[j]? = some (some v) → σ'[j]? = some (some v)) → σw.length = σ'.length → Le P F0 F' → Rel T B P F' H' ρ' σq → wipe σq vs = σw → Mk P F' H' ρ' σq L acc' ds' →
          walk (turn vs g mt (clauses (emit1 dE) (c' :: cls'))) (xs.drop (k5 + 1)) ρ' = some (y2, ρe) → fin = ds' ++ y2 →
          ∃ m, m < xs.length - k5 ∧ ∃ k H F ρ σp acc ds ys, m = xs.length - k ∧ Inv X pins σw H s' ∧ tn k s'.heap ∧ (∀ b ∈ fp, FpOk X pins H b) ∧ Le P F0 F ∧ Rel T B P F H ρ σp ∧ wipe σp vs = σw ∧ Mk P F H ρ σp L acc ds ∧ k ≤ xs.length ∧
            walk (turn vs g mt (clauses (emit1 dE) (c' :: cls'))) (xs.drop k) ρ = some (ys, ρe) ∧ fin = ds ++ ys := fun {s' H' F' ρ' σ' σq acc' ds'} I' w1 w2 l' R' w3 mk' e' f' => by
        obtain ⟨b1, b2, b3⟩ := back I' w1 w2
        exact ⟨xs.length - (k5 + 1), by omega, k5 + 1, H', F', ρ', σq, acc', ds', y2, rfl, b1, b2, b3, l', R', w3, mk', lt, e', f'⟩
      rcases alt with ⟨rfl, rfl, rfl⟩ | ⟨rfl, ec⟩
      · rw [if_neg Bool.false_ne_true]
        rw [List.nil_append] at hy
        subst hy
        exact again I9 wk1 wk2 l9 R9 wk3 mk9 ev9 hf5
      · rw [if_pos rfl]
        unfold clauses at ec
        split at ec
        · cases ec
        · rename_i xs1 ρ1 e1
          have xe0 : ∀ {α : Type} {m : Sem α} {Q : α → Shared → Prop} {s : Shared}, wpAny (model X.prog X.w) X.A m Q X.xe s → wpAny (model X.prog X.w) X.A m Q (fun _ _ => False) s := fun h => by rw [hxe] at h; exact h
          refine thnF (xe0 (hok.it.run _ s9 σ9 H9 (fun J H' => ∃ F', Le (upd P L (.lst acc5)) F9 F' ∧ Rel T B (upd P L (.lst acc5)) F' H' ρ1 σ9 ∧ GW F' J xs1) I9 ⟨_, F9, ρ9, xs1, ρ1, mk9.hold R9, e1, fun J H' F' l' R' gw' => ⟨F', l', R', gw'⟩⟩)) fun xv s10 hx => thnF (xe0 hx) fun itv s11 h11 => ?_
          obtain ⟨it1, fp1, tn1, J1, H11, e2, I11, T1, st11, f11, F11, l11, R11, gw1⟩ := h11
          subst e2
          obtain ⟨ts1, hts1, pg1⟩ := hok.g
          have sb : Sub P (upd P L (.lst acc5)) := hold_sub mk9.pr
          have mk11 := mk9.after R11 l11
          have R11' := R11.less sb
          have l911 := l9.trans (l11.less sb)
          have hlen1 : (ds5 ++ y1).length ≤ LIM := by
            refine Nat.le_trans ?_ hfin
            rw [hf5, hy]
            simp only [List.length_append]
            omega
          have loop1 : codeAny (model X.prog X.w) X.A (.compLoop (.ListComp elt gens scope pos) (d + 1) (.ref it1) (.ref L) X.env)
              (fun r s' => match r with
                | .ok _ => ∃ m, m < xs.length - k5 ∧ ∃ k H F ρ σp acc ds ys, m = xs.length - k ∧ Inv X pins σw H s' ∧ tn k s'.heap ∧ (∀ b ∈ fp, FpOk X pins H b) ∧ Le P F0 F ∧ Rel T B P F H ρ σp ∧ wipe σp vs = σw ∧ Mk P F H ρ σp L acc ds ∧ k ≤ xs.length ∧
                  walk (turn vs g mt (clauses (emit1 dE) (c' :: cls'))) (xs.drop k) ρ = some (ys, ρe) ∧ fin = ds ++ ys
                | .error _ => False) s11 := by
            refine lc_loop hc hxe he cls' ccs hrest (d + 1) t1 i1 ifs1 ts1 c'.ts c'.g c'.ifs h2 hdrop' pg1 hts1 hok.ifs hsub it1 fp1 tn1 J1 T1 (pins ++ pl) (wipe σ9 c'.ts) F11 P xs1 (ds5 ++ y1) ρ10 _ gw1 hlen1 ?_
              s11 H11 F11 ρ1 σ9 acc5 ds5 y1 0 (I11.weak (wipe_length _ _) fun j v e => (wipe_some e).1) st11 (fun b hb => f11 b hb) (Le.refl _ _) R11' rfl mk11 (Nat.zero_le _) ec rfl
            intro s' H' F' ρ' σq acc' I' l' R' w3 eρ mk'
            subst eρ
            refine again I' (fun j v z => ?_) (by rw [wipe_length]; exact wk2) (l911.trans l') R' ((wipe_sub w3 sub1).trans wk3) mk' ev9 (by rw [hf5, hy, List.append_assoc])
            have nv : j ∉ vs := fun hj => by
              rw [← hw, wipe_get, if_pos hj] at z
              cases e : σp[j]? with
              | none => rw [e] at z; cases z
              | some q => rw [e] at z; cases z
            rw [wipe_get, if_neg fun hj => nv (sub1 j hj)]
            exact wk1 j v z
          exact start_at h2 loop1 (T1.self X.A 0 _ _ _ st11 loop1)
termination_by cls => cls.length
end
end LH
end

section
set_option Elab.async false
set_option linter.all false
set_option maxRecDepth 100000
set_option maxHeartbeats 1000000
/-! List comprehensions. -/
namespace LH
open PySem PySem.Spec L2
theorem back_len (ρ ρ' : Env) : ∀ own : List Nat, (back ρ ρ' own).length = ρ'.length
  | [] => rfl
  | i :: is => by unfold back; rw [List.length_set, back_len ρ ρ' is]
theorem back_get (ρ ρ' : Env) : ∀ (own : List Nat) (j : Nat) (sv : SV), get (back ρ ρ' own) j = some sv → (j ∉ own ∧ get ρ' j = some sv) ∨ (j ∈ own ∧ get ρ j = some sv ∧ ∃ d, sv = .val d)
  | [], j, sv, h => .inl ⟨by simp, h⟩
  | i :: is, j, sv, h => by
    have h : get ((back ρ ρ' is).set i (keepV (get ρ i))) j = some sv := h
    by_cases hj : i = j
    · subst hj
      have lt := get_lt h
      rw [List.length_set] at lt
      rw [get_set_self lt] at h
      refine .inr ⟨List.mem_cons_self, ?_⟩
      cases g : get ρ i with
      | none => rw [g] at h; cases h
      | some s =>
        rw [g] at h
        cases s with
        | val d => cases h; exact ⟨rfl, d, rfl⟩
        | _ => cases h
    · rw [get_set_ne hj] at h
      rcases back_get ρ ρ' is j sv h with ⟨h1, h2⟩ | ⟨h1, h2⟩
      · exact .inl ⟨by rw [List.mem_cons, not_or]; exact ⟨fun z => hj z.symm, h1⟩, h2⟩
      · exact .inr ⟨List.mem_cons_of_mem _ h1, h2⟩
theorem wipe_off {σ σ' : St} {vs : List Nat} (h : wipe σ vs = wipe σ' vs) : σ.length = σ'.length ∧ ∀ j, j ∉ vs → σ[j]? = σ'[j]? := by
  refine ⟨by have := congrArg List.length h; rwa [wipe_length, wipe_length] at this, fun j hj => ?_⟩
  have : (wipe σ vs)[j]? = (wipe σ' vs)[j]? := by rw [h]
  rwa [wipe_get, wipe_get, if_neg hj, if_neg hj] at this
section
variable {T : TL} {B : Option Addr} {P F F1 F2 H H1 H2 : Hp} {ρ ρ1 ρ2 : Env} {σ σp : St} {own : List Nat}
/-- behind a block -/
theorem Rel.back (R1 : Rel T B P F1 H1 ρ1 σ) (R2 : Rel T B P F2 H2 ρ2 σp) (l : Le P F1 F2) (w : wipe σp own = wipe σ own) : Rel T B P F2 H2 (LH.back ρ1 ρ2 own) σ := by
  obtain ⟨hl, ho⟩ := wipe_off w
  refine ⟨R2.fh, R2.ph, by rw [back_len, R2.len, hl], fun j sv g => ?_, fun j k sv sv' a gj gk oj ok ej ek => ?_, R2.tabs, R2.ptab, R2.ftab⟩
  · rcases back_get _ _ _ _ _ g with ⟨h1, h2⟩ | ⟨h1, h2, d, rfl⟩
    · rw [← ho j h1]; exact R2.ent j sv h2
    · obtain ⟨v, e1, e2⟩ := R1.ent j _ h2
      exact ⟨v, e1, Rp.mono l.up e2⟩
  · have key : ∀ j sv, get (LH.back ρ1 ρ2 own) j = some sv → sv.isOwn = true → σ[j]? = some (some (.ref a)) → get ρ2 j = some sv ∧ σp[j]? = some (some (.ref a)) := fun j sv g o e => by
      rcases back_get _ _ _ _ _ g with ⟨h1, h2⟩ | ⟨h1, h2, d, rfl⟩
      · exact ⟨h2, by rw [ho j h1]; exact e⟩
      · cases o
    obtain ⟨a1, a2⟩ := key j sv gj oj ej
    obtain ⟨b1, b2⟩ := key k sv' gk ok ek
    exact R2.dist j k sv sv' a a1 b1 oj ok a2 b2
theorem NotOwned.back {a : Addr} (n : NotOwned ρ2 σp a) (w : wipe σp own = wipe σ own) : NotOwned (LH.back ρ1 ρ2 own) σ a := fun j sv g o e => by
  obtain ⟨hl, ho⟩ := wipe_off w
  rcases back_get _ _ _ _ _ g with ⟨h1, h2⟩ | ⟨h1, h2, d, rfl⟩
  · exact n j sv h2 o (by rw [ho j h1]; exact e)
  · cases o
end
theorem comp_some {own : List Nat} {emit : Env → Option (List D × Env)} {it : MI} {g : MG} {ifs : MT} {cs : List Cl} {ρ ρ' : Env} {ys : List D} (h : comp own emit it g ifs cs ρ = some (ys, ρ')) :
    ∃ xs ρ1 ρ2, it ρ = some (xs, ρ1) ∧ walk (turn own g ifs (clauses emit cs)) xs (wipeE ρ1 own) = some (ys, ρ2) ∧ ys.length ≤ LIM ∧ ρ' = back ρ1 ρ2 own := by
  unfold comp at h
  split at h
  · cases h
  · rename_i xs ρ1 e1
    split at h
    · cases h
    · rename_i zs ρ2 e2
      split at h
      · rename_i hz
        cases h
        exact ⟨xs, ρ1, ρ2, e1, e2, hz, rfl⟩
      · cases h
theorem dComp_some {own : List Nat} {elt : ME} {it : MI} {g : MG} {ifs : MT} {cs : List Cl} {ρ ρ' : Env} {r : R} (h : dComp own elt it g ifs cs ρ = some (r, ρ')) : ∃ ys, r = .tmp ys ∧ comp own (emit1 elt) it g ifs cs ρ = some (ys, ρ') := by
  unfold dComp at h
  split at h
  · cases h
  · rename_i ys ρ1 e
    cases h
    exact ⟨ys, rfl, e⟩
section
variable {X : Cx} {T : TL} {B : Option Addr} {elt : Expr} {dE : ME} {cs : List Comprehension} {scope : Scope} {pos : Pos} {tg iter : Expr} {ifs : List Expr} {own : List (Str × Nat)} {it : MI} {g : MG} {mt : MT} {cls : List Cl}
/-- what a block's parts must do, in every context it may start in -/
structure BlkOf (X : Cx) (T : TL) (B : Option Addr) (scope : Scope) (own : List (Str × Nat)) (tg : Expr) (ifs : List Expr) (cs : List Comprehension) (elt : Expr) (g : MG) (mt : MT) (cls : List Cl) (dE : ME) : Prop where
  g : ∃ ts, (∀ j ∈ ts, j ∈ own.map (·.2)) ∧ ∀ (s : Shared) (H : Hp) (C : Addr) (cl : List (Str × Addr)) (fp : List Addr), PG (X.blk s H scope (compEnvC scope cl C X.env) fp) tg (rdG T B ts g)
  ifs : ∀ (s : Shared) (H : Hp) (C : Addr) (cl : List (Str × Addr)) (fp : List Addr), PTs (X.blk s H scope (compEnvC scope cl C X.env) fp) ifs (rdT T B mt)
  elt : ∀ (s : Shared) (H : Hp) (C : Addr) (cl : List (Str × Addr)) (fp : List Addr), PE (X.blk s H scope (compEnvC scope cl C X.env) fp) elt (rdE T B dE)
  rest : ∀ (s : Shared) (H : Hp) (C : Addr) (cl : List (Str × Addr)) (fp : List Addr), ClsOk T B (X.blk s H scope (compEnvC scope cl C X.env) fp) cs cls
  sub : ∀ c' ∈ cls, ∀ j ∈ c'.ts, j ∈ own.map (·.2)
theorem lcn_core {pins : List (Addr × Obj)} {s : Shared} {σ : St} {H : Hp} {Q : VK} {pos' : Pos} {use : Option (Value → Sem Unit)} {Qf : Value → Shared → Prop}
    (hc : X.calm = true) (hN : X.N.Nodup) (I : Inv X pins σ H s) (hi : PI X tg iter (rdI T B it)) (ok : BlkOk X.N X.env.scope scope own) (b : BlkOf X T B scope own tg ifs cs elt g mt cls dE) (hs : ∀ x, foldedSetIterable iter X.env x = pure x)
    (h : rdE T B (dComp (own.map (·.2)) dE it g mt cls) σ H Q)
    (hRR : ∀ D C s' m H', Inv X pins σ H' s' → Q (.ref D) H' → s'.heap.Ns C m → FpOk X pins H' C → compPost (model X.prog X.w) X.A X.xe use Qf (.ref D) C (.ok .next) s') :
    wpAny (model X.prog X.w) X.A (comprehension (.ListComp elt (⟨tg, iter, ifs, 0⟩ :: cs) scope pos) scope X.env pos' (newList []) false (eval iter X.env) use) Qf X.xe s := by
  obtain ⟨P, F, ρ, r, ρ', R, ev, k⟩ := h
  obtain ⟨ys, er, ev1⟩ := dComp_some ev
  subst er
  obtain ⟨xs, ρ1, ρ2, e1, e2, hz, e3⟩ := comp_some ev1
  subst e3
  have hfree : ∀ y ∈ scope.names, y.2 = .free → ∃ c, X.env.cells.lookup y.1 = some c := fun y hy e => by
    rcases ok.free y hy e with k | k
    · exact I.ok.has _ (.inl k)
    · exact I.ok.has _ (.inr k)
  refine wpAny_comprehension_free (use := use) rfl hs (closure_ok hfree) ok.kind (fun y hy e => by rw [ok.uniq y hy, e])
    (thn (hi.run pins s σ H (fun J H' => ∃ F', Le P F F' ∧ Rel T B P F' H' ρ1 σ ∧ GW F' J xs) I ⟨P, F, ρ, xs, ρ1, R, e1, fun J H' F' l' R' gw' => ⟨F', l', R', gw'⟩⟩) fun xv s1 hx => thn hx fun itv s2 h2 => ?_)
  obtain ⟨itA, fp, tn, J, H2, e, I2, Tn, st2, f2, F2, l2, R2, gw⟩ := h2
  subst e
  refine wpAny_newObj_type (newEnv_comp ?_) (by show 0 ≤ sizeLine; decide)
  generalize hD : s2.heap.objs.size = D
  have hDn : H2 D = none := I2.hok.fresh (Nat.le_of_eq hD)
  generalize hs3 : ({ s2 with heap := s2.heap.push { cls := .type "list", data := .seq ([] : List Value).toArray } } : Shared) = s3
  have I3 : Inv X pins σ (upd H2 D (.lst [])) s3 := by
    rw [← hs3]
    refine I2.laid (t' := s2.toks) (fun b o e => Heap.get?_push_of_some _ e) (Nat.le_of_eq hD) ⟨Nat.zero_le _, [], 0, .nil, ?_⟩
    rw [← hD]
    exact Heap.get?_push_size _ rfl
  have R3 : Rel T B P F2 (upd H2 D (.lst [])) ρ1 σ := R2.laid hDn
  have mk3 : Mk P F2 (upd H2 D (.lst [])) ρ1 σ D [] [] := ⟨upd_same, .nil, R2.fNone hDn, R2.pNone hDn, R2.newNot hDn⟩
  have h3 : s3.heap = s2.heap.push { cls := .type "list", data := .seq ([] : List Value).toArray } := by rw [← hs3]
  have sz : ∀ b ∈ fp, b < s2.heap.objs.size := fun b hb => by
    obtain ⟨o, e, _⟩ := Tn.obj _ _ st2 b hb
    exact Heap.lt_size e
  have f3 : ∀ b ∈ fp, FpOk X pins (upd H2 D (.lst [])) b ∧ b < s3.heap.objs.size := fun b hb => by
    have hlt := sz b hb
    refine ⟨⟨?_, (f2 b hb).2⟩, by rw [h3, Heap.size_push]; exact Nat.lt_succ_of_lt hlt⟩
    rw [upd_ne (by rw [← hD]; exact Nat.ne_of_lt hlt)]
    exact (f2 b hb).1
  have st3 : tn 0 s3.heap := Tn.keep _ _ _ st2 fun b _ o e => by rw [h3]; exact Heap.get?_push_of_some _ e
  have I4 := block_start I3 ok hN f3
  obtain ⟨ts, hts, hg⟩ := b.g
  have pg := hg s3 (upd H2 D (.lst [])) s3.heap.objs.size (cellsFrom (s3.heap.objs.size + 1) scope.names (cloFrom X.env.cells scope.names [])) fp
  have pt := b.ifs s3 (upd H2 D (.lst [])) s3.heap.objs.size (cellsFrom (s3.heap.objs.size + 1) scope.names (cloFrom X.env.cells scope.names [])) fp
  have pe := b.elt s3 (upd H2 D (.lst [])) s3.heap.objs.size (cellsFrom (s3.heap.objs.size + 1) scope.names (cloFrom X.env.cells scope.names [])) fp
  have pc := b.rest s3 (upd H2 D (.lst [])) s3.heap.objs.size (cellsFrom (s3.heap.objs.size + 1) scope.names (cloFrom X.env.cells scope.names [])) fp
  show codeAny _ _ (.compStart (.ListComp elt (⟨tg, iter, ifs, 0⟩ :: cs) scope pos) 0 (.ref itA) (.ref D) (compEnvC scope (cellsFrom (s3.heap.objs.size + 1) scope.names (cloFrom X.env.cells scope.names [])) s3.heap.objs.size X.env)) (compPost (model X.prog X.w) X.A X.xe use Qf (.ref D) s3.heap.objs.size) { s3 with heap := pushCells (s3.heap.push { cls := .type "dict", data := .dict #[] }) scope.names }
  have nfp : ∀ b ∈ fp, (upd H2 D (.lst [])) b = none := fun b hb => (f3 b hb).1.1
  generalize hce : compEnvC scope (cellsFrom (s3.heap.objs.size + 1) scope.names (cloFrom X.env.cells scope.names [])) s3.heap.objs.size X.env = ce at I4 pg pt pe pc ⊢
  have cL : ce.locals = s3.heap.objs.size := by subst hce; rfl
  generalize hH3 : upd H2 D (.lst []) = H3 at I3 I4 pg pt pe pc nfp f3 R3 mk3
  generalize hs4 : ({ s3 with heap := pushCells (s3.heap.push { cls := .type "dict", data := .dict #[] }) scope.names } : Shared) = s4 at I4 ⊢
  have st4 : tn 0 s4.heap := Tn.keep _ _ _ st3 fun b _ o e => by rw [← hs4]; exact pushCells_keeps _ _ _ _ (Heap.get?_push_of_some _ e)
  have fpB : ∀ b ∈ fp, FpOk (X.blk s3 H3 scope ce fp) [] H3 b := fun b hb =>
    ⟨nfp b hb, (I4.ok.exf b hb).1, I4.ok.exfs b hb, .inl hb, fun x c e => (I4.ok.exf b hb).2 x c e, fun p hp => absurd (show p ∈ ([] : List (Addr × Obj)) ++ [] from hp) (by simp)⟩
  have loop : codeAny (model X.prog X.w) X.A (.compLoop (.ListComp elt (⟨tg, iter, ifs, 0⟩ :: cs) scope pos) 0 (.ref itA) (.ref D) ce) (compPost (model X.prog X.w) X.A X.xe use Qf (.ref D) s3.heap.objs.size) s4 := by
    refine lc_loop (X := X.blk s3 H3 scope ce fp) (B := B) (T := T) (dE := dE) hc rfl pe cls cs pc 0 tg iter ifs ts (own.map (·.2)) g mt rfl rfl pg hts pt b.sub itA fp tn J Tn [] (wipe σ (own.map (·.2))) F2 P xs ys ρ2 _ gw hz ?_
      s4 H3 F2 (wipeE ρ1 (own.map (·.2))) (wipe σ (own.map (·.2))) [] [] ys 0 I4 st4 fpB (Le.refl _ _) (R3.wiped _) (wipe_idem fun j hj => hj) ⟨mk3.hp, mk3.rl, mk3.fr, mk3.pr, ?_⟩ (Nat.zero_le _) e2 rfl
    · intro s6 H5 F5 ρ5 σ5 acc5 I6 l5 R5 w5 eρ mk5
      subst eρ
      have I7 : Inv X pins σ H5 s6 := I3.call' (ch := fp) I6.os I6.base I6.hok I6.bare fun b hb => ⟨(f3 b hb).1.2.2.2.1, (f3 b hb).1.2.1, (f3 b hb).1.2.2.2.2.1, (f3 b hb).1.2.2.2.2.2⟩
      have nC : H5 s3.heap.objs.size = none := by
        have z : H5 ce.locals = none := I6.free
        rw [cL] at z
        exact z
      obtain ⟨m, hn, _⟩ := I6.loc
      have hn : s6.heap.Ns ce.locals m := hn
      rw [cL] at hn
      refine hRR D s3.heap.objs.size s6 m H5 I7 ?_ hn (I3.fpOk (Nat.le_refl _) nC)
      exact k _ H5 F5 (l2.trans l5) (R3.back R5 l5 w5) ⟨D, acc5, rfl, mk5.hp, mk5.rl, mk5.fr, mk5.pr, mk5.no.back w5⟩
    · intro i sv gi oi ei
      obtain ⟨w1, w2⟩ := wipe_some ei
      have gi' : get ρ1 i = some sv := by
        have : ∀ (vs : List Nat), i ∉ vs → get (wipeE ρ1 vs) i = get ρ1 i := fun vs => by
          induction vs with
          | nil => intro _; rfl
          | cons v vs ih =>
            intro hv
            rw [List.mem_cons, not_or] at hv
            show get ((wipeE ρ1 vs).set v none) i = _
            rw [get_set_ne (fun z => hv.1 z.symm)]
            exact ih hv.2
        rw [this _ w2] at gi
        exact gi
      exact mk3.no i sv gi' oi w1
  exact codeAny_compStart_list loop (Tn.self X.A 0 _ _ _ st4 loop)
/-- as a value -/
theorem pe_dComp (hc : X.calm = true) (hN : X.N.Nodup) (hi : PI X tg iter (rdI T B it)) (ok : BlkOk X.N X.env.scope scope own) (b : BlkOf X T B scope own tg ifs cs elt g mt cls dE) (hs : ∀ x, foldedSetIterable iter X.env x = pure x) :
    PE X (.ListComp elt (⟨tg, iter, ifs, 0⟩ :: cs) scope pos) (rdE T B (dComp (own.map (·.2)) dE it g mt cls)) := by
  refine ⟨fun pins s σ H Q I h => ?_⟩
  rw [eval_ListComp]
  refine lcn_core hc hN I hi ok b hs h fun D C s' m H' I' q hn f => ⟨m, hn, fun h'' sb => ?_⟩
  obtain ⟨f0, f1, f2, f3, f4, f5⟩ := f
  exact ⟨.ref D, H', I'.turned (t' := s'.toks) (fun b o hb e => (sb.2 b hb).trans e) f0 f1 f3 f4 f5, rfl, q⟩
/-- name = [..] on one line, the name a local -/
theorem ps_dSetComp {i : Nat} {y : Str} {py spos : Pos} (hc : X.calm = true) (hN : X.N.Nodup) (hy : X.N[i]? = some y) (hyl : X.env.scope.names.lookup y = some .local)
    (hsw : swapsWith (.ListComp elt (⟨tg, iter, ifs, 0⟩ :: cs) scope pos) (some (.Name y py)) spos.line X.env = pure true) (hi : PI X tg iter (rdI T B it)) (ok : BlkOk X.N X.env.scope scope own) (b : BlkOf X T B scope own tg ifs cs elt g mt cls dE) (hs : ∀ x, foldedSetIterable iter X.env x = pure x) :
    PS X (.Assign [.Name y py] (.ListComp elt (⟨tg, iter, ifs, 0⟩ :: cs) scope pos) spos) (rdS T B (sAsg i (dComp (own.map (·.2)) dE it g mt cls))) := by
  refine ⟨fun pins s σ H D I h => ?_⟩
  rw [exec_Assign_Name_used _ _ _ _ hsw]
  refine wpAny_bind (wpAny_standAt (wpAny_bind ?_))
  show wpAny _ X.A (do let _ ← comprehension (.ListComp elt (⟨tg, iter, ifs, 0⟩ :: cs) scope pos) scope X.env (firstIterPos (⟨tg, iter, ifs, 0⟩ :: cs) pos) (newList []) false (eval iter X.env) (some (assign (.Name y py) X.env))) _ _ s
  have h : rdE T B (dComp (own.map (·.2)) dE it g mt cls) σ H (fun x H1 => L2.gName i x σ H1 D.nx) := by
    obtain ⟨P, F, ρ, fl, ρ', R, ev, k⟩ := h
    unfold sAsg at ev
    split at ev
    · cases ev
    · rename_i r ρ1 e1
      split at ev
      · cases ev
      · rename_i ρ2 e2
        cases ev
        refine ⟨P, F, ρ, r, ρ1, R, e1, fun v H1 F1 l1 R1 q1 => ?_⟩
        obtain ⟨F2, l2, R2⟩ := put_ok R1 q1 e2
        exact k _ H1 F2 (l1.trans l2) R2
  refine wpAny_bind (thn (lcn_core (Qf := fun _ s' => SP X pins D .next s') hc hN I hi ok b hs h fun L C s' m H' I' q hn f => ?_) fun _ s' hq => wpAny_pure (wpAny_pure hq))
  show wpAny _ _ (assign (.Name y py) X.env (.ref L)) _ _ _
  refine wpAny_assign_Name (store_ok2 (v := V.ref L) I' hN hy (.inl hyl) rfl (fun s2 I2 ⟨a, sb, ha⟩ => ?_) (.inr hyl))
  obtain ⟨f0, f1, f2, f3, f4, f5⟩ := f
  have haC : C ≠ a := by
    rcases ha with z | z
    · rw [z]; exact f1
    · exact fun e => f4 y a z e.symm
  refine ⟨m, hn.sameBut sb haC, fun h3 sb3 => ?_⟩
  exact ⟨_, H', I2.turned (t' := s2.toks) (fun b o hb e => (sb3.2 b hb).trans e) f0 f1 f3 f4 f5, q⟩
end
end LH
end

section
set_option Elab.async false
set_option linter.all false
set_option maxRecDepth 100000
set_option maxHeartbeats 1000000
/-! Generator expressions: their loops. -/
namespace LH
open PySem PySem.Spec L2
section
variable {X : Cx} {T : TL} {B : Option Addr}
/-- what a generator hands out: m more will come behind it; tie: what the taker holds of what came so far -/
def gY (X : Cx) (T : TL) (B : Option Addr) (P F0 : Hp) (tie : List Value → List (Addr × Obj) → Prop) (ca : List Addr) (ys : List D) (st : Bool) (ρe : Env) (own : List Nat) (σ0 : St) : Protocol := fun m s₀ v s kap =>
  ∃ x d σ' H' F' ρ' cons ip us hist, tie us cons ∧ (∀ p ∈ ip, p.1 ∉ ca) ∧ Inv X (cons ++ ip) σ' H' s ∧ RelV x v ∧ Rp F' x d ∧ ys[ys.length - 1 - m]? = some d ∧ m < ys.length ∧ Vals hist us ∧ RpL F' hist (ys.take (ys.length - 1 - m)) ∧
    Le P F0 F' ∧ Rel T B P F' H' ρ' σ' ∧ wipe σ' own = σ0 ∧ ((m = 0 ∧ st = true ∧ ρ' = ρe) ∨ ((m = 0 → st = false) ∧ ∀ s'' cons'', tie (us ++ [v]) cons'' → Inv X (cons'' ++ ip) σ' H' s'' → kap (.send .none) s''))
def gEnd (X : Cx) (T : TL) (B : Option Addr) (P F0 : Hp) (tie : List Value → List (Addr × Obj) → Prop) (ys : List D) (st : Bool) (ρe : Env) (own : List Nat) (σ0 : St) (n : Nat) (s₀ s : Shared) : Prop :=
  n = 0 ∧ st = false ∧ ∃ σ' σq H' F' cons ip us hist, tie us cons ∧ Inv X (cons ++ ip) σ' H' s ∧ Vals hist us ∧ RpL F' hist ys ∧ Le P F0 F' ∧ Rel T B P F' H' ρe σq ∧ wipe σq own = σ0
def gR (X : Cx) (T : TL) (B : Option Addr) (P F0 : Hp) (tie : List Value → List (Addr × Obj) → Prop) (ys : List D) (st : Bool) (ρe : Env) (own : List Nat) (σ0 : St) : GenEnd := fun n s₀ r s => r = .ok .next ∧ gEnd X T B P F0 tie ys st ρe own σ0 n s₀ s
end
theorem walkS_cons {body : D → MW} {x : D} {xs ys : List D} {st : Bool} {ρ ρ' : Env} (h : walkS body (x :: xs) ρ = some (ys, st, ρ')) :
    (body x ρ = some (ys, true, ρ') ∧ st = true) ∨ ∃ y1 ρ1 y2, body x ρ = some (y1, false, ρ1) ∧ walkS body xs ρ1 = some (y2, st, ρ') ∧ ys = y1 ++ y2 := by
  unfold walkS at h
  split at h
  · cases h
  · rename_i y1 ρ1 e1
    cases h
    exact .inl ⟨e1, rfl⟩
  · rename_i y1 ρ1 e1
    split at h
    · cases h
    · rename_i y2 st' ρ2 e2
      cases h
      exact .inr ⟨y1, ρ1, y2, e1, e2, rfl⟩
theorem turnS_some {ts : List Nat} {g : MG} {ifs : MT} {rest : MW} {x : D} {ρ ρ' : Env} {ys : List D} {st : Bool} (h : turnS ts g ifs rest x ρ = some (ys, st, ρ')) :
    ∃ ρ1, g x (wipeE ρ ts) = some ρ1 ∧ ((ifs ρ1 = some (false, ρ') ∧ ys = [] ∧ st = false) ∨ ∃ ρ2, ifs ρ1 = some (true, ρ2) ∧ rest ρ2 = some (ys, st, ρ')) := by
  unfold turnS at h
  split at h
  · cases h
  · rename_i ρ1 e1
    split at h
    · cases h
    · rename_i ρ2 e2
      cases h
      exact ⟨ρ1, e1, .inl ⟨e2, rfl, rfl⟩⟩
    · rename_i ρ2 e2
      exact ⟨ρ1, e1, .inr ⟨ρ2, e2, h⟩⟩
theorem emitS_some {k : GK} {elt : ME} {ρ ρ' : Env} {ys : List D} {st : Bool} (h : emitS k elt ρ = some (ys, st, ρ')) : ∃ r ρ1 d, elt ρ = some (r, ρ1) ∧ share r ρ1 = some (d, ρ') ∧ ys = [d] ∧ stops k d = some st := by
  unfold emitS at h
  split at h
  · cases h
  · rename_i r ρ1 e1
    split at h
    · cases h
    · rename_i d ρ2 e2
      split at h
      · cases h
      · rename_i st' e3
        cases h
        exact ⟨r, ρ1, d, e1, e2, rfl, e3⟩
section
variable {X : Cx} {T : TL} {B : Option Addr} {elt : Expr} {dE : ME} {gk : GK} {gens : List Comprehension} {scope : Scope} {pos : Pos}
theorem den_loop {P : Program} {w : World} {d : Nat} {it : Value} {env : PySem.Env} : ∃ h : Value → Sem Unit, (model P w).den (.compLoop (.GeneratorExp elt gens scope pos) d it .none env) = (compTurn (.GeneratorExp elt gens scope pos) d it .none env).onRaise h := by
  cases d with
  | zero => exact ⟨_, rfl⟩
  | succ d => exact ⟨_, rfl⟩
theorem den_start {P : Program} {w : World} {d : Nat} {it : Value} {env : PySem.Env} : ∃ h : Value → Sem Unit, (model P w).den (.compStart (.GeneratorExp elt gens scope pos) d it .none env) = (compStart (.GeneratorExp elt gens scope pos) d it .none env).onRaise h := by
  cases d with
  | zero => exact ⟨_, rfl⟩
  | succ d => exact ⟨_, rfl⟩
/-- one turn of the loop at d up to behind the tests -/
theorem gen_turn (hc : X.calm = true) (hxe : X.xe = fun _ _ => False) {t : Expr} {ifs : List Expr} {ts vs : List Nat} {g : MG} {mt : MT} (pg : PG X t (rdG T B ts g)) (hts : ∀ j ∈ ts, j ∈ vs) (pt : PTs X ifs (rdT T B mt))
    {it : Addr} {fp : List Addr} {tn : Nat → Heap → Prop} {J : It} (Tn : Turn X.prog X.w X.K t J fp it tn) {F0 P : Hp} {xs : List D} (gw : GW F0 J xs) {rest : MW} {pins : List (Addr × Obj)} {s : Shared} {H F : Hp} {ρ ρ' : Env} {σp σw : St} {k : Nat} {zs : List D} {sto : Bool}
    (I : Inv X pins σw H s) (st : tn k s.heap) (fps : ∀ b ∈ fp, FpOk X pins H b) (l0 : Le P F0 F) (R : Rel T B P F H ρ σp) (hw : wipe σp vs = σw) (hk : k ≤ xs.length) (ev : walkS (turnS vs g mt rest) (xs.drop k) ρ = some (zs, sto, ρ'))
    {Qn : Shared → Prop} {Qt : Bool → Shared → Prop} (hn : k = xs.length → zs = [] → sto = false → ρ = ρ' → ∀ s1, Inv X pins σw H s1 → Qn s1)
    (ht : k < xs.length → ∀ (s9 : Shared) (H9 F9 : Hp) (ρ9 : Env) (σ9 : St) (b : Bool) (pl : List (Addr × Obj)), (∀ p ∈ pl, p.1 ∈ fp) → Inv X (pins ++ pl) σ9 H9 s9 → Le P F F9 → Rel T B P F9 H9 ρ9 σ9 → Off ts σw σ9 →
      ((b = false ∧ walkS (turnS vs g mt rest) (xs.drop (k + 1)) ρ9 = some (zs, sto, ρ')) ∨ (b = true ∧ ((rest ρ9 = some (zs, true, ρ') ∧ sto = true) ∨ ∃ y1 ρ10 y2, rest ρ9 = some (y1, false, ρ10) ∧ walkS (turnS vs g mt rest) (xs.drop (k + 1)) ρ10 = some (y2, sto, ρ') ∧ zs = y1 ++ y2))) →
      (∀ {pins' : List (Addr × Obj)} {s' : Shared} {H' : Hp} {σ' : St}, pins'.map (·.1) = pins.map (·.1) → Inv X (pins' ++ pl) σ' H' s' → (∀ (j : Nat) v, σw[j]? = some (some v) → σ'[j]? = some (some v)) → σw.length = σ'.length → Inv X pins' σw H' s' ∧ tn (k + 1) s'.heap ∧ ∀ b ∈ fp, FpOk X pins' H' b) → Qt b s9) :
    wpAny (model X.prog X.w) X.A (pyNext (.ref it)) (fun r s₁ => match r with
      | none => Qn s₁
      | some v => wpAny (model X.prog X.w) X.A (letOwnedTupleGo t (.ref it) v) (fun _ s₁' => wpAny (model X.prog X.w) X.A (assign t X.env v) (fun _ s₂ =>
        wpAny (model X.prog X.w) X.A (testsOf ifs X.env) Qt (fun _ _ => False) s₂) (fun _ _ => False) s₁') (fun _ _ => False) s₁) (fun _ _ => False) s := by
  by_cases lt : k < xs.length
  · have ti := Tn.item X rfl rfl rfl hc k pins s σw H (fun _ _ => False) I fps st (gw.goes k H lt (l0.up.trans R.fh))
    refine thnF ti fun r s6 ⟨u, hr, h6⟩ => ?_
    subst hr
    refine thnF h6 fun _ s7 ⟨x, H7, I7, r7, y7, st7, n7⟩ => ?_
    have ex : xs[k]? = some xs[k] := List.getElem?_eq_getElem lt
    have Rw : Rel T B P F H (wipeE ρ vs) σw := by rw [← hw]; exact R.wiped vs
    obtain ⟨F7, l7, R7, rp⟩ := gw.yields k _ H x H7 ex y7 T B _ F _ σw l0.up Rw
    have fp7 : ∀ b ∈ fp, FpOk X pins H7 b := fun b hb => ⟨n7 b hb, (fps b hb).2⟩
    have I7' := I7.pinned fp7 (Tn.obj _ _ st7)
    have xe0 : ∀ {α : Type} {m : Sem α} {Q : α → Shared → Prop} {s : Shared}, wpAny (model X.prog X.w) X.A m Q X.xe s → wpAny (model X.prog X.w) X.A m Q (fun _ _ => False) s := fun h => by rw [hxe] at h; exact h
    have key : ∃ ρ8 b ρ9, g xs[k] (wipeE ρ vs) = some ρ8 ∧ mt ρ8 = some (b, ρ9) ∧ ((b = false ∧ walkS (turnS vs g mt rest) (xs.drop (k + 1)) ρ9 = some (zs, sto, ρ')) ∨ (b = true ∧ ((rest ρ9 = some (zs, true, ρ') ∧ sto = true) ∨ ∃ y1 ρ10 y2, rest ρ9 = some (y1, false, ρ10) ∧ walkS (turnS vs g mt rest) (xs.drop (k + 1)) ρ10 = some (y2, sto, ρ') ∧ zs = y1 ++ y2))) := by
      rw [List.drop_eq_getElem_cons lt] at ev
      rcases walkS_cons ev with ⟨e1, e2⟩ | ⟨y1, ρ10, y2, e1, e2, e3⟩
      · obtain ⟨ρ8, e4, e5⟩ := turnS_some e1
        rcases e5 with ⟨z1, z2, z3⟩ | ⟨ρ9, z1, z2⟩
        · cases z3
        · exact ⟨ρ8, true, ρ9, e4, z1, .inr ⟨rfl, .inl ⟨z2, e2⟩⟩⟩
      · obtain ⟨ρ8, e4, e5⟩ := turnS_some e1
        rcases e5 with ⟨z1, z2, z3⟩ | ⟨ρ9, z1, z2⟩
        · subst z2
          rw [List.nil_append] at e3
          subst e3
          exact ⟨ρ8, false, ρ10, e4, z1, .inl ⟨rfl, e2⟩⟩
        · exact ⟨ρ8, true, ρ9, e4, z1, .inr ⟨rfl, .inr ⟨y1, ρ10, y2, z2, e2, e3⟩⟩⟩
    obtain ⟨ρ8, b, ρ9, e4, e5, alt⟩ := key
    refine thnF (xe0 (pg.run _ s7 σw H7 x u (fun σ8 H8 => H8 = H7 ∧ Off ts σw σ8 ∧ Rel T B P F7 H8 ρ8 σ8) I7' r7 ⟨_, F7, _, _, ρ8, R7, rp, e4, fun σ8 o8 R8 => ⟨rfl, o8, R8⟩⟩)) fun _ s8 ⟨σ8, H8, I8, eH, o8, R8⟩ => ?_
    subst eH
    refine thnF (xe0 (pt.run _ s8 σ8 H8 (fun b' H9 => b' = b ∧ ∃ F9, Le P F7 F9 ∧ Rel T B P F9 H9 ρ9 σ8) I8 ⟨P, F7, ρ8, b, ρ9, R8, e5, fun H9 F9 l9 R9 => ⟨rfl, F9, l9, R9⟩⟩)) fun b' s9 ⟨H9, I9, eb, F9, l9, R9⟩ => ?_
    subst eb
    refine ht lt s9 H9 F9 ρ9 σ8 b' (pinsAt fp s7.heap) (fun p hp => (of_pinsAt hp).1) I9 (l7.trans l9) R9 o8 alt ?_
    intro pins' s' H' σ' hp I' hwk hlen
    have pin' : ∀ b ∈ fp, ∀ o, s7.heap.get? b = some o → s'.heap.get? b = some o ∧ H' b = none := fun b hb o e =>
      let z := I'.pin (b, o) (List.mem_append_right _ (List.mem_append_right _ (mem_pinsAt hb e)))
      ⟨z.1, z.2.1⟩
    refine ⟨(I'.unpinned (pins := pins')).weak hlen hwk, Tn.keep _ _ _ st7 fun b hb o e => (pin' b hb o e).1, fun b hb => ?_⟩
    obtain ⟨o, e, _⟩ := Tn.obj _ _ st7 b hb
    obtain ⟨q0, q1, q2, q3, q4, q5⟩ := fp7 b hb
    refine ⟨(pin' b hb o e).2, q1, q2, q3, q4, fun p hp' => ?_⟩
    rcases List.mem_append.mp hp' with z | z
    · exact q5 p (List.mem_append_left _ z)
    · have : p.1 ∈ pins.map (·.1) := by rw [← hp]; exact List.mem_map_of_mem z
      obtain ⟨p0, h0, h1⟩ := List.mem_map.mp this
      rw [← h1]
      exact q5 p0 (List.mem_append_right _ h0)
  · have e : k = xs.length := by omega
    subst e
    have td := Tn.done X rfl rfl rfl hc xs.length pins s σw H (fun _ _ => False) I fps st (gw.stops H (l0.up.trans R.fh))
    refine thnF td fun r s6 ⟨hr, I6⟩ => ?_
    subst hr
    rw [List.drop_length] at ev
    cases ev
    exact hn rfl rfl rfl rfl s6 I6
end
end LH
end

section
set_option Elab.async false
set_option linter.all false
set_option maxRecDepth 100000
set_option maxHeartbeats 2000000
/-! Generator expressions: their loops, the body of the generator. -/
namespace LH
open PySem PySem.Spec L2
section
variable {X : Cx} {T : TL} {B : Option Addr} {elt : Expr} {dE : ME} {gk : GK} {gens : List Comprehension} {scope : Scope} {pos : Pos}
theorem nostopW {ts : List Nat} {g : MG} {mt : MT} {rest : MW} (h : ∀ ρ ρ', rest ρ ≠ some ([], true, ρ')) : ∀ (xs : List D) (ρ ρ' : Env), walkS (turnS ts g mt rest) xs ρ ≠ some ([], true, ρ')
  | [], ρ, ρ', e => by cases e
  | x :: xs, ρ, ρ', e => by
    rcases walkS_cons e with ⟨e1, _⟩ | ⟨y1, ρ1, y2, e1, e2, e3⟩
    · obtain ⟨ρ8, _, e5⟩ := turnS_some e1
      rcases e5 with ⟨_, _, z⟩ | ⟨ρ9, _, z⟩
      · cases z
      · exact h _ _ z
    · have := (List.append_eq_nil_iff.mp e3.symm).2
      subst this
      exact nostopW h xs _ _ e2
theorem nostopC : ∀ (cls : List Cl) (ρ ρ' : Env), clausesS (emitS gk dE) cls ρ ≠ some ([], true, ρ')
  | [], ρ, ρ', e => by
    obtain ⟨_, _, _, _, _, q, _⟩ := emitS_some (show emitS gk dE ρ = _ from e)
    cases q
  | c :: cs, ρ, ρ', e => by
    unfold clausesS at e
    split at e
    · cases e
    · exact nostopW (nostopC cs) _ _ _ e
/-- a start is the loop -/
theorem seg_gstart {A : Around} {R : GenEnd} {Y : Protocol} {n : Nat} {s₀ s : Shared} {d : Nat} {it : Value} {t i : Expr} {ifs : List Expr} {fs : List Frame} (hd : gens[d]? = some ⟨t, i, ifs, 0⟩)
    (hself : ∀ (Q : Value → Shared → Prop) (E : Value → Shared → Prop), Q it s → wpAny (model X.prog X.w) (A.over (.compStart (.GeneratorExp elt gens scope pos) d it .none X.env) fs) (pyIter it) Q E s)
    (loop : Seg (model X.prog X.w) A R Y n s₀ (.compLoop (.GeneratorExp elt gens scope pos) d it .none X.env) ((model X.prog X.w).den (.compLoop (.GeneratorExp elt gens scope pos) d it .none X.env)) fs s) :
    Seg (model X.prog X.w) A R Y n s₀ (.compStart (.GeneratorExp elt gens scope pos) d it .none X.env) ((model X.prog X.w).den (.compStart (.GeneratorExp elt gens scope pos) d it .none X.env)) fs s := by
  obtain ⟨hr, e⟩ := den_start (P := X.prog) (w := X.w) (elt := elt) (gens := gens) (scope := scope) (pos := pos) (d := d) (it := it) (env := X.env)
  rw [e, Sem.onRaise_eq_wrap]
  have e2 : clausesOf (.GeneratorExp elt gens scope pos) = gens := rfl
  unfold compStart
  simp only [e2, hd]
  show Seg _ A _ _ _ s₀ _ ((ask >>= _).wrap _ _ _ _) fs s
  refine seg_bind_wrap (wpAny_askSetting ?_)
  split
  · exact seg_again rfl loop
  · first
      | exact seg_bind_wrap (wpAny_rule (seg_bind_wrap (wpAny_standAt (seg_bind_wrap (hself _ _ (seg_again rfl loop))))))
      | (refine seg_bind_wrap (wpAny_rule ?_); show Seg _ A _ _ _ s₀ _ ((standAt i.pos >>= _).wrap _ _ _ _) fs s; exact seg_bind_wrap (wpAny_standAt (seg_bind_wrap (hself _ _ (seg_again rfl loop)))))
/-- behind the tests of a turn -/
structure Tested (X : Cx) (T : TL) (B : Option Addr) (P F0 : Hp) (ts vs : List Nat) (g : MG) (mt : MT) (rest : MW) (xs : List D) (σw : St) (fp : List Addr) (tn : Nat → Heap → Prop) (pins : List (Addr × Obj)) (k : Nat) (zs : List D) (sto : Bool) (ρ' : Env)
    (b : Bool) (s9 : Shared) (H9 F9 : Hp) (ρ9 : Env) (σ9 : St) (pl : List (Addr × Obj)) : Prop where
  lt : k < xs.length
  plf : ∀ p ∈ pl, p.1 ∈ fp
  I : Inv X (pins ++ pl) σ9 H9 s9
  le : Le P F0 F9
  R : Rel T B P F9 H9 ρ9 σ9
  off : Off ts σw σ9
  alt : (b = false ∧ walkS (turnS vs g mt rest) (xs.drop (k + 1)) ρ9 = some (zs, sto, ρ')) ∨ (b = true ∧ ((rest ρ9 = some (zs, true, ρ') ∧ sto = true) ∨ ∃ y1 ρ10 y2, rest ρ9 = some (y1, false, ρ10) ∧ walkS (turnS vs g mt rest) (xs.drop (k + 1)) ρ10 = some (y2, sto, ρ') ∧ zs = y1 ++ y2))
  back : ∀ {pins' : List (Addr × Obj)} {s' : Shared} {H' : Hp} {σ' : St}, pins'.map (·.1) = pins.map (·.1) → Inv X (pins' ++ pl) σ' H' s' → (∀ (j : Nat) v, σw[j]? = some (some v) → σ'[j]? = some (some v)) → σw.length = σ'.length → Inv X pins' σw H' s' ∧ tn (k + 1) s'.heap ∧ ∀ b ∈ fp, FpOk X pins' H' b
theorem gen_loop (hc : X.calm = true) (hxe : X.xe = fun _ _ => False) (he : PE X elt (rdE T B dE)) (hco : X.env.scope.isCoroutine = false) {A : Around} {P F0 : Hp} {tie : List Value → List (Addr × Obj) → Prop} {ca : List Addr} (htc : ∀ us cons, tie us cons → cons.map (·.1) = ca) {ys : List D} {st : Bool} {ρe : Env} {own : List Nat} {σ0 : St} :
    ∀ (cls : List Cl) (cs : List Comprehension), ClsOk T B X cs cls → (∀ c' ∈ cls, ∀ j ∈ c'.ts, j ∈ own) →
    ∀ (d : Nat) (t i : Expr) (ifs : List Expr) (ts vs : List Nat) (g : MG) (mt : MT), gens[d]? = some ⟨t, i, ifs, 0⟩ → gens.drop (d + 1) = cs →
      PG X t (rdG T B ts g) → (∀ j ∈ ts, j ∈ vs) → (∀ j ∈ vs, j ∈ own) → PTs X ifs (rdT T B mt) → (∀ c' ∈ cls, ∀ j ∈ c'.ts, j ∈ vs) →
      ∀ (it : Addr) (fp : List Addr) (tn : Nat → Heap → Prop) (J : It), Turn X.prog X.w X.K t J fp it tn →
      ∀ (fs : List Frame), A.over (.compLoop (.GeneratorExp elt gens scope pos) d (.ref it) .none X.env) fs = X.A → splitAtGen fs = none → fs.any Frame.guarded = false →
      ∀ (ip : List (Addr × Obj)), (∀ p ∈ ip, p.1 ∉ ca) → ∀ (σw : St) (F1 : Hp) (xs : List D) (ρ' : Env) (sto : Bool) (post : List D), GW F1 J xs → Le P F0 F1 → wipe σw own = σ0 → (∀ j ∈ vs, ∀ v, σw[j]? ≠ some (some v)) →
      (sto = true → post = [] ∧ st = true ∧ ρ' = ρe) → (sto = false → post = [] → st = false) →
      (sto = false → ∀ s₀ s H F σp cons us hist dnE, tie us cons → Vals hist us → RpL F hist dnE → ys = dnE ++ post → Inv X (cons ++ ip) σw H s → Le P F1 F → Rel T B P F H ρ' σp → wipe σp vs = σw →
        Seg (model X.prog X.w) A (gR X T B P F0 tie ys st ρe own σ0) (gY X T B P F0 tie ca ys st ρe own σ0) post.length s₀ (.compLoop (.GeneratorExp elt gens scope pos) d (.ref it) .none X.env) (.pure (.done .next)) fs s) →
      ∀ (n : Nat) (s₀ s : Shared) (H F : Hp) (ρ : Env) (σp : St) (cons : List (Addr × Obj)) (us : List Value) (hist : List V) (dn zs : List D) (k : Nat), n = xs.length - k → tie us cons → Inv X (cons ++ ip) σw H s → Vals hist us → RpL F hist dn →
        tn k s.heap → (∀ b ∈ fp, FpOk X (cons ++ ip) H b) → Le P F1 F → Rel T B P F H ρ σp → wipe σp vs = σw → k ≤ xs.length → walkS (turnS vs g mt (clausesS (emitS gk dE) cls)) (xs.drop k) ρ = some (zs, sto, ρ') → ys = dn ++ (zs ++ post) →
        Seg (model X.prog X.w) A (gR X T B P F0 tie ys st ρe own σ0) (gY X T B P F0 tie ca ys st ρe own σ0) (zs ++ post).length s₀ (.compLoop (.GeneratorExp elt gens scope pos) d (.ref it) .none X.env)
          ((model X.prog X.w).den (.compLoop (.GeneratorExp elt gens scope pos) d (.ref it) .none X.env)) fs s
  | cls, cs, hcls, hown, d, t, i, ifs, ts, vs, g, mt, hd, hdrop, pg, hts, hvs, pt, hlat, it, fp, tn, J, Tn, fs, hov, hsp, hgd, ip, hip, σw, F1, xs, ρ', sto, post, gw, l01, hσ, hnone, hst1, hst2, hfin => by
    have xe0 : ∀ {α : Type} {m : Sem α} {Q : α → Shared → Prop} {s : Shared}, wpAny (model X.prog X.w) X.A m Q X.xe s → wpAny (model X.prog X.w) X.A m Q (fun _ _ => False) s := fun h => by rw [hxe] at h; exact h
    intro n
    induction n using Nat.strongRecOn with
    | ind n ih =>
      intro s₀ s H F ρ σp cons us hist dn zs k hn htie I hvs' hrl st5 fps l1 Re hw hk ev hys
      have hca : cons.map (·.1) = ca := htc _ _ htie
      have tt := gen_turn hc hxe pg hts pt Tn gw I st5 fps l1 Re hw hk ev (Qn := fun s1 => k = xs.length ∧ zs = [] ∧ sto = false ∧ ρ = ρ' ∧ Inv X (cons ++ ip) σw H s1)
        (Qt := fun b s9 => ∃ H9 F9 ρ9 σ9 pl, Tested X T B P F ts vs g mt (clausesS (emitS gk dE) cls) xs σw fp tn (cons ++ ip) k zs sto ρ' b s9 H9 F9 ρ9 σ9 pl)
        (fun a1 a2 a3 a4 s1 I1 => ⟨a1, a2, a3, a4, I1⟩) (fun a1 s9 H9 F9 ρ9 σ9 b pl a0 a2 a3 a4 a5 a6 a7 => ⟨H9, F9, ρ9, σ9, pl, a1, a0, a2, a3, a4, a5, a6, a7⟩)
      obtain ⟨hr, eden⟩ := den_loop (P := X.prog) (w := X.w) (elt := elt) (gens := gens) (scope := scope) (pos := pos) (d := d) (it := .ref it) (env := X.env)
      -- on to the next turn
      have again : ∀ {s₀' s' : Shared} {H' F' : Hp} {ρ1 : Env} {σ' σq : St} {cons' pl : List (Addr × Obj)} {us' : List Value} {hist' : List V} {dn' zs' : List D}, k < xs.length → tie us' cons' → Vals hist' us' → RpL F' hist' dn' → Inv X (cons' ++ ip ++ pl) σ' H' s' → (∀ (j : Nat) v, σw[j]? = some (some v) → σ'[j]? = some (some v)) → σw.length = σ'.length →
          (Inv X (cons' ++ ip) σw H' s' ∧ tn (k + 1) s'.heap ∧ ∀ b ∈ fp, FpOk X (cons' ++ ip) H' b) → Le P F1 F' → Rel T B P F' H' ρ1 σq → wipe σq vs = σw → walkS (turnS vs g mt (clausesS (emitS gk dE) cls)) (xs.drop (k + 1)) ρ1 = some (zs', sto, ρ') → ys = dn' ++ (zs' ++ post) →
          Seg (model X.prog X.w) A (gR X T B P F0 tie ys st ρe own σ0) (gY X T B P F0 tie ca ys st ρe own σ0) (zs' ++ post).length s₀' (.compLoop (.GeneratorExp elt gens scope pos) d (.ref it) .none X.env) (.pure (.again (.compLoop (.GeneratorExp elt gens scope pos) d (.ref it) .none X.env))) fs s' :=
        fun {s₀' s' H' F' ρ1 σ' σq cons' pl us' hist' dn' zs'} lt ht' hv' hr' I' w1 w2 bk l' R' w3 e' y' => by
          obtain ⟨b1, b2, b3⟩ := bk
          exact seg_again rfl (ih (xs.length - (k + 1)) (by omega) s₀' s' H' F' ρ1 σq cons' us' hist' dn' zs' (k + 1) rfl ht' b1 hv' hr' b2 b3 l' R' w3 lt e' y')
      have weak2 : ∀ {σ9 : St}, Off ts σw σ9 → (∀ (j : Nat) v, σw[j]? = some (some v) → σ9[j]? = some (some v)) ∧ σw.length = σ9.length ∧ wipe σ9 vs = σw := fun {σ9} o9 => by
        refine ⟨fun j v z => ?_, o9.1.symm, ?_⟩
        · rw [o9.2 j fun hj => hnone j (hts j hj) v z]; exact z
        · rw [o9.wipe hts, ← hw]
          exact wipe_idem fun j hj => hj
      have hipl : ∀ {pl : List (Addr × Obj)}, (∀ p ∈ pl, p.1 ∈ fp) → ∀ p ∈ ip ++ pl, p.1 ∉ ca := fun {pl} h p hp => by
        rcases List.mem_append.mp hp with z | z
        · exact hip p z
        · rw [← hca]
          intro hm
          obtain ⟨p0, q0, q1⟩ := List.mem_map.mp hm
          exact (fps p.1 (h p z)).2.2.2.2.2 p0 (List.mem_append_right _ (List.mem_append_left _ q0)) q1
      rw [eden]
      cases hcls with
      | nil =>
        have h2 : gens[d + 1]? = none := List.getElem?_eq_none (List.drop_eq_nil_iff.mp hdrop)
        rw [gturn_last hd h2, Sem.onRaise_eq_wrap]
        refine seg_bind_wrap (wpAny_standAt (seg_bind_wrap ?_))
        rw [hov]
        refine thnF tt fun r s1 h1 => ?_
        cases r with
        | none =>
          obtain ⟨a1, a2, a3, a4, I1⟩ := h1
          subst a2
          subst a4
          exact hfin a3 s₀ s1 H F σp cons us hist dn htie hvs' hrl (by rw [hys]; rfl) I1 l1 Re hw
        | some v =>
          refine seg_bind_wrap ?_
          rw [hov]
          refine thnF h1 fun _ s2 h2 => seg_bind_wrap ?_
          rw [hov]
          refine thnF h2 fun _ s3 h3 => seg_bind_wrap ?_
          rw [hov]
          refine thnF h3 fun b s9 ⟨H9, F9, ρ9, σ9, pl, Z⟩ => ?_
          obtain ⟨wk1, wk2, wk3⟩ := weak2 Z.off
          rcases Z.alt with ⟨rfl, e9⟩ | ⟨rfl, alt⟩
          · simp only [Bool.false_eq_true, if_false]
            exact again Z.lt htie hvs' (hrl.mono Z.le.up) Z.I wk1 wk2 (Z.back rfl Z.I wk1 wk2) (l1.trans Z.le) Z.R wk3 e9 hys
          · simp only [if_true]
            have hy : ∀ v, yieldOut X.env v = yieldValue v := fun v => by simp only [yieldOut, hco, Bool.false_eq_true, if_false]
            simp only [hy]
            rw [Sem.bind_eq_wrap', Sem.bind_eq_wrap', Sem.wrap_wrap, Sem.wrap_wrap]
            have em : ∃ d0 r0 ρ1 ρ2, dE ρ9 = some (r0, ρ1) ∧ share r0 ρ1 = some (d0, ρ2) ∧ ((zs = [d0] ∧ sto = true ∧ ρ2 = ρ') ∨ ∃ y2, walkS (turnS vs g mt (clausesS (emitS gk dE) [])) (xs.drop (k + 1)) ρ2 = some (y2, sto, ρ') ∧ zs = d0 :: y2) := by
              rcases alt with ⟨e1, e2⟩ | ⟨y1, ρ10, y2, e1, e2, e3⟩
              · obtain ⟨r0, ρ1, d0, q1, q2, q3, q4⟩ := emitS_some (show emitS gk dE ρ9 = _ from e1)
                exact ⟨d0, r0, ρ1, ρ', q1, q2, .inl ⟨q3, e2, rfl⟩⟩
              · obtain ⟨r0, ρ1, d0, q1, q2, q3, q4⟩ := emitS_some (show emitS gk dE ρ9 = _ from e1)
                subst q3
                exact ⟨d0, r0, ρ1, ρ10, q1, q2, .inr ⟨y2, e2, e3⟩⟩
            obtain ⟨d0, r0, ρ1, ρ2, q1, q2, q3⟩ := em
            obtain ⟨m, hm⟩ : ∃ m, (zs ++ post).length = m + 1 := by
              rcases q3 with ⟨z, _⟩ | ⟨y2, _, z⟩ <;> (rw [z]; exact ⟨_, rfl⟩)
            rw [hm]
            refine seg_wrap ?_
            rw [hov]
            refine thnF (xe0 (he.run _ s9 σ9 H9 (fun v H' => ∃ F', Le P F9 F' ∧ Rel T B P F' H' ρ1 σ9 ∧ RepR P F' H' ρ1 σ9 r0 v) Z.I ⟨P, F9, ρ9, r0, ρ1, Z.R, q1, fun v H' F' l' R' q' => ⟨F', l', R', q'⟩⟩)) fun v s10 ⟨x, H10, I10, rx, F10, l10, R10, q10⟩ => ?_
            obtain ⟨F11, l11, R11, rp, _, _⟩ := share_ok R10 q10 q2
            have lA : Le P F1 F11 := l1.trans (Z.le.trans (l10.trans l11))
            have uA : Sub F F11 := (Z.le.trans (l10.trans l11)).up
            refine seg_at (seg_yield hsp rfl hgd ?_)
            have hlen : ys.length = dn.length + (m + 1) := by rw [hys, List.length_append, hm]
            have hget : ys[ys.length - 1 - m]? = some d0 := by
              have e0 : ys.length - 1 - m = dn.length := by omega
              rw [e0, hys, List.getElem?_append_right (Nat.le_refl _), Nat.sub_self]
              rcases q3 with ⟨z, _⟩ | ⟨y2, _, z⟩ <;> (rw [z]; rfl)
            have htake : ys.take (ys.length - 1 - m) = dn := by
              have e0 : ys.length - 1 - m = dn.length := by omega
              rw [e0, hys, List.take_left]
            refine ⟨x, d0, σ9, H10, F11, ρ2, cons, ip ++ pl, us, hist, htie, hipl Z.plf, by rw [← List.append_assoc]; exact I10, rx, rp, hget, by omega, hvs', by rw [htake]; exact hrl.mono uA, l01.trans lA, R11, (Z.off.wipe fun j hj => hvs j (hts j hj)).trans hσ, ?_⟩
            rcases q3 with ⟨z1, z2, z3⟩ | ⟨y2, z1, z2⟩
            · obtain ⟨p1, p2, p3⟩ := hst1 z2
              refine .inl ⟨?_, p2, z3.trans p3⟩
              rw [z1, p1] at hm
              simp at hm
              omega
            · have hm2 : m = (y2 ++ post).length := by rw [z2] at hm; simp at hm ⊢; omega
              refine .inr ⟨fun m0 => ?_, fun s'' cons'' ht'' I'' => ?_⟩
              · rw [hm2] at m0
                have : y2 ++ post = [] := List.length_eq_zero_iff.mp m0
                obtain ⟨y0, p0⟩ := List.append_eq_nil_iff.mp this
                subst y0
                cases sto with
                | false => exact hst2 rfl p0
                | true =>
                  exact absurd z1 (nostopW (nostopC []) _ _ _)
              · rw [hm2]
                have I3 : Inv X (cons'' ++ ip ++ pl) σ9 H10 s'' := by rw [List.append_assoc]; exact I''
                have hmap : (cons'' ++ ip).map (·.1) = (cons ++ ip).map (·.1) := by rw [List.map_append, List.map_append, htc _ _ ht'', hca]
                have R'' : Rel T B P F11 H10 ρ2 σ9 := R11
                exact again (dn' := dn ++ [d0]) Z.lt ht'' (hvs'.append (.cons rx .nil)) ((hrl.mono uA).append (.cons rp .nil)) I3 wk1 wk2 (Z.back hmap I3 wk1 wk2) lA R'' wk3 z1 (by rw [hys, z2]; simp)
      | @cons cc ccs c' cls' hok hsub hrest =>
        have h2 : gens[d + 1]? = some cc := by
          have := congrArg (fun l => l[0]?) hdrop
          simpa [List.getElem?_drop] using this
        obtain ⟨t1, i1, ifs1, as1⟩ := cc
        have as0 : as1 = 0 := hok.asy
        subst as0
        have hdrop' : gens.drop (d + 1 + 1) = ccs := by rw [← List.drop_drop, hdrop]; rfl
        have sub1 : ∀ j ∈ c'.ts, j ∈ vs := fun j hj => hlat c' List.mem_cons_self j hj
        have own1 : ∀ j ∈ c'.ts, j ∈ own := fun j hj => hown c' List.mem_cons_self j hj
        rw [gturn_more hd h2, Sem.onRaise_eq_wrap]
        refine seg_bind_wrap (wpAny_standAt (seg_bind_wrap ?_))
        rw [hov]
        refine thnF tt fun r s1 h1 => ?_
        cases r with
        | none =>
          obtain ⟨a1, a2, a3, a4, I1⟩ := h1
          subst a2
          subst a4
          exact hfin a3 s₀ s1 H F σp cons us hist dn htie hvs' hrl (by rw [hys]; rfl) I1 l1 Re hw
        | some v =>
          refine seg_bind_wrap ?_
          rw [hov]
          refine thnF h1 fun _ s2 h2' => seg_bind_wrap ?_
          rw [hov]
          refine thnF h2' fun _ s3 h3 => seg_bind_wrap ?_
          rw [hov]
          refine thnF h3 fun b s9 ⟨H9, F9, ρ9, σ9, pl, Z⟩ => ?_
          obtain ⟨wk1, wk2, wk3⟩ := weak2 Z.off
          rcases Z.alt with ⟨rfl, e9⟩ | ⟨rfl, alt⟩
          · simp only [Bool.false_eq_true, if_false]
            exact again Z.lt htie hvs' (hrl.mono Z.le.up) Z.I wk1 wk2 (Z.back rfl Z.I wk1 wk2) (l1.trans Z.le) Z.R wk3 e9 hys
          · simp only [if_true]
            have em : ∃ xs1 ρ1 y1 sto1 ρ10 y2, c'.it ρ9 = some (xs1, ρ1) ∧ walkS (turnS c'.ts c'.g c'.ifs (clausesS (emitS gk dE) cls')) xs1 ρ1 = some (y1, sto1, ρ10) ∧ zs = y1 ++ y2 ∧
                ((sto1 = true ∧ sto = true ∧ y2 = [] ∧ ρ10 = ρ') ∨ (sto1 = false ∧ walkS (turnS vs g mt (clausesS (emitS gk dE) (c' :: cls'))) (xs.drop (k + 1)) ρ10 = some (y2, sto, ρ'))) := by
              rcases alt with ⟨e1, e2⟩ | ⟨y1, ρ10, y2, e1, e2, e3⟩
              · unfold clausesS at e1
                split at e1
                · cases e1
                · rename_i xs1 ρ1 q1
                  exact ⟨xs1, ρ1, zs, true, ρ', [], q1, e1, by rw [List.append_nil], .inl ⟨rfl, e2, rfl, rfl⟩⟩
              · unfold clausesS at e1
                split at e1
                · cases e1
                · rename_i xs1 ρ1 q1
                  exact ⟨xs1, ρ1, y1, false, ρ10, y2, q1, e1, e3, .inr ⟨rfl, e2⟩⟩
            obtain ⟨xs1, ρ1, y1, sto1, ρ10, y2, q1, q2, q3, q4⟩ := em
            refine seg_bind_wrap ?_
            rw [hov]
            refine thnF (xe0 (hok.it.run _ s9 σ9 H9 (fun J H' => ∃ F', Le P F9 F' ∧ Rel T B P F' H' ρ1 σ9 ∧ GW F' J xs1) Z.I ⟨P, F9, ρ9, xs1, ρ1, Z.R, q1, fun J H' F' l' R' gw' => ⟨F', l', R', gw'⟩⟩)) fun xv s10 hx => ?_
            refine seg_bind_wrap (wpAny_standAt (seg_bind_wrap (wpAny_of_eq (hok.fold xv) (seg_bind_wrap (wpAny_holding ?_)))))
            rw [hov]
            refine thnF (xe0 hx) fun itv s11 h11 => ?_
            obtain ⟨it1, fp1, tn1, J1, H11, e2, I11, T1, st11, f11, F11, l11, R11, gw1⟩ := h11
            subst e2
            obtain ⟨ts1, hts1, pg1⟩ := hok.g
            have lA : Le P F1 F11 := l1.trans (Z.le.trans l11)
            have uA : Sub F F11 := (Z.le.trans l11).up
            have hzs : zs ++ post = y1 ++ (y2 ++ post) := by rw [q3, List.append_assoc]
            rw [hzs]
            refine seg_call (c' := .compStart (.GeneratorExp elt gens scope pos) (d + 1) (.ref it1) .none X.env) fun p => ?_
            generalize hkk : (fun r : Result => _) = kk
            have hov1 : A.over (.compStart (.GeneratorExp elt gens scope pos) (d + 1) (.ref it1) .none X.env) (.ret kk none false [] (.compLoop (.GeneratorExp elt gens scope pos) d (.ref it) .none X.env) p [] :: fs) = X.A := (GenW.over_loop rfl rfl).trans hov
            have hov2 : A.over (.compLoop (.GeneratorExp elt gens scope pos) (d + 1) (.ref it1) .none X.env) (.ret kk none false [] (.compLoop (.GeneratorExp elt gens scope pos) d (.ref it) .none X.env) p [] :: fs) = X.A := (GenW.over_loop rfl rfl).trans hov
            have hsp1 : splitAtGen (.ret kk none false [] (.compLoop (.GeneratorExp elt gens scope pos) d (.ref it) .none X.env) p [] :: fs) = none := by
              show (splitAtGen fs).map _ = none
              rw [hsp]; rfl
            have hgd1 : (Frame.ret kk none false [] (.compLoop (.GeneratorExp elt gens scope pos) d (.ref it) .none X.env) p [] :: fs).any Frame.guarded = false := by
              show (false || fs.any Frame.guarded) = false
              rw [hgd]; rfl
            refine seg_gstart h2 (fun Q E q => by
              show wpAny _ (A.over (.compStart (.GeneratorExp elt gens scope pos) (d + 1) (.ref it1) .none X.env) (.ret kk none false [] (.compLoop (.GeneratorExp elt gens scope pos) d (.ref it) .none X.env) p [] :: fs)) _ _ _ _
              rw [hov1]
              exact T1.self X.A 0 s11 Q E st11 q) ?_
            have inner := gen_loop hc hxe he hco (A := A) (P := P) (F0 := F0) (tie := tie) (ca := ca) htc (ys := ys) (st := st) (ρe := ρe) (own := own) (σ0 := σ0) cls' ccs hrest (fun c'' h'' => hown c'' (List.mem_cons_of_mem _ h'')) (d + 1) t1 i1 ifs1 ts1 c'.ts c'.g c'.ifs h2 hdrop' pg1 hts1 own1 hok.ifs hsub it1 fp1 tn1 J1 T1
              _ hov2 hsp1 hgd1 (ip ++ pl) (hipl Z.plf) (wipe σ9 c'.ts) F11 xs1 ρ10 sto1 (y2 ++ post) gw1 (l01.trans lA) (by rw [wipe_idem own1]; exact (Z.off.wipe fun j hj => hvs j (hts j hj)).trans hσ)
              (fun j hj v z => by
                rw [wipe_get, if_pos hj] at z
                cases e : σ9[j]? with
                | none => rw [e] at z; cases z
                | some q => rw [e] at z; cases z)
              (fun h => by
                rcases q4 with ⟨_, z2, z3, z4⟩ | ⟨z1, _⟩
                · obtain ⟨p1, p2, p3⟩ := hst1 z2
                  exact ⟨by rw [z3, p1]; rfl, p2, z4.trans p3⟩
                · rw [z1] at h; cases h)
              (fun h h' => by
                obtain ⟨y0, p0⟩ := List.append_eq_nil_iff.mp h'
                rcases q4 with ⟨z1, _⟩ | ⟨_, z2⟩
                · rw [z1] at h; cases h
                · subst y0
                  cases sto with
                  | false => exact hst2 rfl p0
                  | true => exact absurd z2 (nostopW (nostopC (c' :: cls')) _ _ _))
              (fun h s₀' s' H' F' σq cons' us' hist' dnE ht' hv' hr' hE I' l' R' w3 => by
                rcases q4 with ⟨z1, _⟩ | ⟨_, z2⟩
                · rw [z1] at h; cases h
                · refine seg_leaf (.ok .next) ?_
                  subst hkk
                  have I3 : Inv X (cons' ++ ip ++ pl) (wipe σ9 c'.ts) H' s' := by rw [List.append_assoc]; exact I'
                  have hmap : (cons' ++ ip).map (·.1) = (cons ++ ip).map (·.1) := by rw [List.map_append, List.map_append, htc _ _ ht', hca]
                  have wk4 : ∀ (j : Nat) v, σw[j]? = some (some v) → (wipe σ9 c'.ts)[j]? = some (some v) := fun j v z => by
                    rw [wipe_get, if_neg fun hj => hnone j (sub1 j hj) v z]
                    exact wk1 j v z
                  have wk5 : σw.length = (wipe σ9 c'.ts).length := by rw [wipe_length]; exact wk2
                  exact again (dn' := dnE) Z.lt ht' hv' hr' I3 wk4 wk5 (Z.back hmap I3 wk4 wk5) (lA.trans l') R' ((wipe_sub w3 sub1).trans wk3) z2 hE)
              xs1.length s₀ s11 H11 F11 ρ1 σ9 cons us hist dn y1 0 (Nat.sub_zero _).symm htie (by rw [← List.append_assoc]; exact I11.weak (wipe_length _ _) fun j v e => (wipe_some e).1) hvs' (hrl.mono uA) st11 (fun b hb => by rw [← List.append_assoc]; exact f11 b hb) (Le.refl _ _) R11 rfl (Nat.zero_le _) q2 (by rw [hys, hzs])
            exact inner
termination_by cls => cls.length
end
end LH
end

section
set_option Elab.async false
set_option linter.all false
set_option maxRecDepth 100000
set_option maxHeartbeats 1000000
/-! Generator expressions: the context of the body; truth of an item. -/
namespace LH
open PySem PySem.Spec L2
/-- the context of a generator expression's body, made at s -/
abbrev genCx (X : Cx) (A : Around) (s : Shared) (H : Hp) (cenv : PySem.Env) (fp : List Addr) : Cx :=
  { X with A := A.deeper cenv, s_0 := s, H_0 := H, env := cenv, outer := X.stack, stack := cenv :: X.stack, ex := fp, fn := fun x => cenv.scope.names.lookup x == some .cell, pn := [], xe := fun _ _ => False }
section
variable {X : Cx} {pins : List (Addr × Obj)} {σ : St} {H : Hp} {s : Shared} {scope : Scope} {own : List (Str × Nat)} {fp : List Addr} {A : Around}
theorem gen_start (I : Inv X pins σ H s) (ok : BlkOk X.N X.env.scope scope own) (hN : X.N.Nodup) (hfp : ∀ b ∈ fp, FpOk X pins H b ∧ b < s.heap.objs.size)
    (hA : A.frames = some X.stack) (hh : A.handled = none) {s2 : Shared} {m : Str → Option Value} (kp : ∀ b o, s.heap.get? b = some o → s2.heap.get? b = some o) (ns : s2.heap.Ns s.heap.objs.size m) (hos : s2.os = s.os) (hb : PyProof.Rows.AllBare s2.gens) (code : Value)
    (hnew : ∀ y c, (y, c) ∈ cellsFrom (s.heap.objs.size + 1) scope.names (cloFrom X.env.cells scope.names []) → (y, c) ∈ cloFrom X.env.cells scope.names [] ∨ ((y, NameKind.cell) ∈ scope.names ∧ s.heap.objs.size + 1 ≤ c ∧ ∃ v, s2.heap.IsCell c v)) :
    Inv (genCx X A s H (genEnv scope (cellsFrom (s.heap.objs.size + 1) scope.names (cloFrom X.env.cells scope.names [])) s.heap.objs.size code builtinsNs X.env) fp) [] (wipe σ (own.map (·.2))) H s2 := by
  have hfree : ∀ y ∈ scope.names, y.2 = .free → ∃ c, X.env.cells.lookup y.1 = some c := fun y hy e => by
    rcases ok.free y hy e with k | k
    · exact I.ok.has _ (.inl k)
    · exact I.ok.has _ (.inr k)
  generalize hcenv : genEnv scope (cellsFrom (s.heap.objs.size + 1) scope.names (cloFrom X.env.cells scope.names [])) s.heap.objs.size code builtinsNs X.env = cenv
  have hL : cenv.locals = s.heap.objs.size := by rw [← hcenv]; rfl
  have hcl : cenv.cells = cellsFrom (s.heap.objs.size + 1) scope.names (cloFrom X.env.cells scope.names []) := by rw [← hcenv]; rfl
  have hsc : cenv.scope = scope := by rw [← hcenv]; rfl
  have cm : ∀ {y c}, (y, c) ∈ cloFrom X.env.cells scope.names [] → X.env.cells.lookup y = some c ∧ c < s.heap.objs.size := fun {y c} hm => by
    rcases cloFrom_mem hm with hm | ⟨h1, rfl⟩
    · cases hm
    · obtain ⟨c, hc⟩ := hfree _ h1 rfl
      rw [hc]
      obtain ⟨w, z⟩ := I.cell _ _ hc
      exact ⟨rfl, z.lt⟩
  have mem : ∀ {y c}, cenv.cells.lookup y = some c → (X.env.cells.lookup y = some c ∧ c < s.heap.objs.size) ∨ ((y, NameKind.cell) ∈ scope.names ∧ s.heap.objs.size + 1 ≤ c ∧ ∃ v, s2.heap.IsCell c v) := fun {y c} e => by
    rw [hcl] at e
    rcases hnew _ _ (PySem.mem_of_lookup e) with hm | hm
    · exact .inl (cm hm)
    · exact .inr hm
  have look : ∀ {y}, scope.names.lookup y = some .free → ∃ c, cenv.cells.lookup y = some c ∧ X.env.cells.lookup y = some c := fun {y} hl => by
    obtain ⟨c', e'⟩ := mem_lookup (cells_acc (names := scope.names) (n := s.heap.objs.size + 1) (cloFrom_has (cells := X.env.cells) (acc := []) (PySem.mem_of_lookup hl)))
    rw [← hcl] at e'
    refine ⟨c', e', ?_⟩
    rcases mem e' with h | ⟨h, _⟩
    · exact h.1
    · have := ok.uniq _ h
      rw [hl] at this; cases this
  have okB : (genCx X A s H cenv fp).Ok := by
    refine ⟨I.ok.mod, by show cenv.scope.kind = _; rw [hsc]; exact ok.kind, by show cenv.globals = _; rw [← hcenv]; exact I.ok.glob, by show cenv.builtins = _; rw [← hcenv]; rfl, by show s.heap.objs.size ≤ cenv.locals; rw [hL]; exact Nat.le_refl _,
      fun y z c e1 e2 => ?_, fun y hy => ?_, fun y c z e => ?_, fun _ => hh, Around.frames_deeper hA, .inr ⟨rfl, ?_⟩, fun b hb => ⟨?_, fun y c e z => ?_⟩, I.bs, Nat.le_trans I.ok.bsz I.sz, fun b o e hb => ?_, fun b hb z => ?_, I.stack, I.stkFree⟩
    · have e1 : cenv.cells.lookup y = some c := e1
      have e2 : cenv.cells.lookup z = some c := e2
      rw [hcl] at e1 e2
      have e1 := PySem.mem_of_lookup e1
      have e2 := PySem.mem_of_lookup e2
      rw [← Heap.size_push s.heap { cls := .type "dict", data := .dict #[] }] at e1 e2
      refine cells_inj (fun p hp => ?_) (fun y z c a b => I.ok.inj y z c (cm a).1 (cm b).1) e1 e2
      rw [Heap.size_push]
      exact Nat.lt_succ_of_lt (cm (y := p.1) (c := p.2) hp).2
    · show ∃ c, cenv.cells.lookup y = some c
      have key : scope.names.lookup y = some .cell ∨ scope.names.lookup y = some .free := by
        rcases hy with hy | hy
        · exact .inl (by have : cenv.scope.names.lookup y = some .cell := hy; rwa [hsc] at this)
        · exact .inr (by have : cenv.scope.names.lookup y = some .free := hy; rwa [hsc] at this)
      rcases key with k | k
      · obtain ⟨c, hm⟩ := cells_has (n := s.heap.objs.size + 1) (acc := cloFrom X.env.cells scope.names []) (PySem.mem_of_lookup k)
        obtain ⟨c', e'⟩ := mem_lookup hm
        exact ⟨c', by rw [hcl]; exact e'⟩
      · obtain ⟨c, h1, _⟩ := look k
        exact ⟨c, h1⟩
    · have z : (cenv.scope.names.lookup y == some NameKind.cell) = true := z
      rw [hsc] at z
      have z : scope.names.lookup y = some .cell := by simpa using z
      have e : cenv.cells.lookup y = some c := e
      rw [hcl] at e
      rcases hnew _ _ (PySem.mem_of_lookup e) with hm | ⟨_, h2, _⟩
      · rcases cloFrom_mem hm with hm | ⟨h1, _⟩
        · cases hm
        · have q := ok.uniq _ h1
          rw [z] at q; cases q
      · exact Nat.le_of_succ_le h2
    · show cenv.frame = some cenv.locals
      rw [← hcenv]; rfl
    · show b ≠ cenv.locals
      rw [hL]; exact Nat.ne_of_lt (hfp b hb).2
    · have e : cenv.cells.lookup y = some c := e
      rcases mem e with ⟨h1, _⟩ | ⟨_, h1, _⟩
      · exact (hfp b hb).1.2.2.2.2.1 y c h1 z
      · have h2 : s.heap.objs.size + 1 ≤ b := by rw [← z]; exact h1
        exact absurd (Nat.lt_of_lt_of_le (hfp b hb).2 (Nat.le_of_succ_le h2)) (Nat.lt_irrefl _)
    · rcases (hfp b hb).1.2.2.2.1 with z | z
      · exact I.ok.noex b o e z
      · exact absurd (Nat.lt_of_lt_of_le (Heap.lt_size e) (Nat.le_trans I.ok.bsz z)) (Nat.lt_irrefl _)
    · rcases List.mem_cons.mp (I.stkSub b z) with z | z
      · exact (hfp b hb).1.2.1 z
      · exact (hfp b hb).1.2.2.1 z
  refine ⟨okB, hos, hb, Un.kept kp, ⟨m, ?_, fun i y av e1 e2 e3 => ?_⟩, fun y c e => ?_, ?_, fun y c e => ?_, fun p hp => ?_, I.hok.kept kp, by rw [wipe_length]; exact I.len⟩
  · show Heap.Ns _ cenv.locals _
    rw [hL]; exact ns
  · obtain ⟨e2, hne⟩ := wipe_some e2
    have hfr : scope.names.lookup y = some .free := by
      have e3 : Vis cenv.scope y := e3
      rw [hsc] at e3
      have no : ∀ k, scope.names.lookup y = some k → ¬ (k = .local ∨ k = .cell) := fun k hk hh => by
        rcases ok.own _ (PySem.mem_of_lookup hk) hh with e' | e'
        · obtain ⟨p, hp, hpy⟩ := List.mem_map.mp e'
          have e3 := ok.ix p hp
          have : p.1 = y := hpy
          rw [this] at e3
          exact hne (List.mem_map.mpr ⟨p, hp, nodup_ix hN e3 e1⟩)
        · exact e' (List.mem_of_getElem? e1)
      rcases e3 with e3 | e3 | e3
      · exact absurd (.inl rfl) (no _ e3)
      · exact absurd (.inr rfl) (no _ e3)
      · exact e3
    obtain ⟨m', hn, hl⟩ := I.loc
    have hvis : Vis X.env.scope y := (ok.free _ (PySem.mem_of_lookup hfr) rfl).elim (fun k => .inr (.inl k)) (fun k => .inr (.inr k))
    obtain ⟨w, r, q⟩ := hl i y av e1 e2 hvis
    refine ⟨w, r, .inr ⟨.inr (by show cenv.scope.names.lookup y = _; rw [hsc]; exact hfr), ?_⟩⟩
    obtain ⟨c, h1, h2⟩ := look hfr
    rcases q with ⟨k, _⟩ | ⟨_, c', e', z⟩
    · have k : X.env.scope.names.lookup y = some .local := k
      rcases ok.free _ (PySem.mem_of_lookup hfr) rfl with k' | k' <;> rw [show X.env.scope.names.lookup y = _ from k'] at k <;> cases k
    · rw [h2] at e'; cases e'
      exact ⟨c, h1, z.keeps kp⟩
  · have e : cenv.cells.lookup y = some c := e
    rcases mem e with ⟨h1, _⟩ | ⟨_, _, z⟩
    · obtain ⟨w, z⟩ := I.cell y c h1
      exact ⟨w, z.keeps kp⟩
    · exact z
  · show H cenv.locals = none
    rw [hL]; exact I.hok.fresh (Nat.le_refl _)
  · have e : cenv.cells.lookup y = some c := e
    rcases mem e with ⟨h1, _⟩ | ⟨_, h1, _⟩
    · exact I.freeC y c h1
    · exact I.hok.fresh (Nat.le_of_succ_le h1)
  · exact absurd (show p ∈ ([] : List (Addr × Obj)) ++ [] from hp) (by simp)
/-- back in the def -/
theorem gen_back (I : Inv X pins σ H s) (hfp : ∀ b ∈ fp, FpOk X pins H b) {cenv : PySem.Env} {pins' : List (Addr × Obj)} {σ' : St} {H' : Hp} {s' : Shared} (J : Inv (genCx X A s H cenv fp) pins' σ' H' s') : Inv X pins σ H' s' :=
  I.call' (ch := fp) J.os J.base J.hok J.bare fun b hb => ⟨(hfp b hb).2.2.2.1, (hfp b hb).2.1, (hfp b hb).2.2.2.2.1, (hfp b hb).2.2.2.2.2⟩
/-- the truth of a value, nothing changed -/
theorem tru_run {x : V} {v : Value} {k : Bool} {M : Model} {A' : Around} {E : Value → Shared → Prop} (hM : M = model X.prog X.w) (I : Inv X pins σ H s) (rx : RelV x v) (e : TruV X.K x H k) : wpAny M A' (truthy v) (fun b s' => b = k ∧ ∃ tk, s' = { s with toks := tk }) E s := by
  subst hM
  have hl := line63
  have hs : sizeLine = 16777216 := sizeLine_eq
  cases x with
  | non => cases rx; have e' : k = false := e; subst e'; exact PyProof.Rows.truthy_none ⟨rfl, s.toks, rfl⟩
  | bl b => cases rx; have e' : k = b := e; subst e'; exact wpAny_truthy_bool ⟨rfl, s.toks, rfl⟩
  | int i => obtain ⟨t, rfl⟩ := rx; have e' : k = (i != 0) := e; subst e'; exact PySem.P.truthy_int ⟨rfl, s.toks, rfl⟩
  | str y =>
    obtain ⟨t, rfl⟩ := rx
    obtain ⟨hy, e'⟩ : y.length ≤ sizeLine ∧ k = ((y.length : Int) != 0) := e
    subst e'
    exact PySem.P.truthy_str (by omega) ⟨rfl, _, rfl⟩
  | byt y =>
    obtain ⟨t, rfl⟩ := rx
    obtain ⟨hy, e'⟩ : y.size ≤ sizeLine ∧ k = ((y.size : Int) != 0) := e
    subst e'
    exact PySem.W.truthy_bytes (by omega) ⟨rfl, _, rfl⟩
  | ref p =>
    cases rx
    have e' : (∃ xs, SqL X.K H p xs ∧ k = !xs.isEmpty) ∨ (∃ xs, SqT X.K H p xs ∧ k = !xs.isEmpty) ∨ ∃ kvs, H p = some (.dK kvs) ∧ k = !kvs.isEmpty := e
    rcases e' with ⟨xs, hx, e'⟩ | ⟨xs, hx, e'⟩ | ⟨kvs, hx, e'⟩
    · subst e'
      obtain ⟨its, r, pl, hz⟩ := I.list hx
      have hlen := r.length
      exact wpAny_truthy_list pl.isList (by simp only [List.size_toArray]; omega) ⟨isEmpty_of r, _, rfl⟩
    · subst e'
      obtain ⟨its, r, pl, hz⟩ := I.tuple hx
      have hlen := r.length
      exact PyProof.Rows.truthy_tuple pl (by simp only [List.size_toArray]; omega) ⟨isEmpty_of r, _, rfl⟩
    · subst e'
      obtain ⟨hz, hS, vs, r, m⟩ : kvs.length ≤ sizeLine ∧ (p == sysModules) = false ∧ ∃ vs, KV kvs vs ∧ s.heap.DictOf (mixKind X.prog X.w) p vs := I.hok p _ hx
      have hlen : kvs.length = vs.length := Paired.length r
      exact wpAny_truthy_dict hS m (by omega) ⟨isEmpty_kv r, _, rfl⟩
  | _ => exact (show False from e).elim
end
end LH
end

section
set_option Elab.async false
set_option linter.all false
set_option maxRecDepth 100000
set_option maxHeartbeats 2000000
/-! A generator expression is made. -/
namespace LH
open PySem PySem.Spec L2
theorem eval_gen (elt target iter : Expr) (ifs : List Expr) (cs : List Comprehension) (scope : Scope) (pos : Pos) (env : PySem.Env) (hco : scope.isCoroutine = false) (hl : notLst iter = true) :
    eval (.GeneratorExp elt (⟨target, iter, ifs, 0⟩ :: cs) scope pos) env = (do
      let x ← eval iter env
      standAt iter.pos
      let x ← foldedSetIterable iter env x
      let it ← holding [x] (pyIter x)
      enterFrame
      let cl ← closureFor scope env
      let code ← genexprCode env pos (env.qual ++ "<genexpr>") scope
      let bi ← builtinsFor env.globals env.builtins
      let cenv ← newFunctionEnv scope env.globals cl [(".0", it)] (env.qual ++ "<genexpr>.") none code none bi
      newGenerator (.compStart (.GeneratorExp elt (⟨target, iter, ifs, 0⟩ :: cs) scope pos) 0 it .none cenv) "<genexpr>" (env.qual ++ "<genexpr>")) := by
  rw [arm_eval_GeneratorExp]
  simp only [hco, Bool.false_eq_true, if_false]
  cases iter <;> first | rfl | cases hl
theorem codeAmong_app {pos p : Pos} {cv v : Value} (l : List Value) (h : TriplesOk l) (e : codeAmong p (l ++ [rawInt pos.line, rawInt pos.col, cv]) = some v) : v = cv ∨ codeAmong p l = some v := by
  fun_induction TriplesOk l with
  | case1 =>
    rw [List.nil_append] at e
    unfold codeAmong rawInt at e
    dsimp only at e
    split at e
    · cases e; exact .inl rfl
    · cases e
  | case2 a t b u c r ih =>
    rw [List.cons_append, List.cons_append, List.cons_append] at e
    unfold codeAmong at e ⊢
    split at e
    · rename_i hc; rw [if_pos hc]; exact .inr e
    · rename_i hc; rw [if_neg hc]; exact ih h e
  | case3 l h1 h2 => exact h.elim
theorem Rel.wk {T T' : TL} {B : Option Addr} {P F H : Hp} {ρ : Env} {σ : St} (R : Rel T' B P F H ρ σ) (s : ∀ q ∈ T, q ∈ T') : Rel T B P F H ρ σ where
  fh := R.fh
  ph := R.ph
  len := R.len
  ent := R.ent
  dist := R.dist
  tabs := R.tabs.sub s
  ptab := R.ptab
  ftab := R.ftab
theorem Rel.tl {T : TL} {q : Addr × Option Addr} {B : Option Addr} {P F H : Hp} {ρ : Env} {σ : St} (R : Rel (q :: T) B P F H ρ σ) : Rel T B P F H ρ σ := R.wk fun _ h => List.mem_cons_of_mem _ h
/-- a code object is new, its table is empty; the table at Pt tells it -/
theorem Rel.code {T : TL} {B : Option Addr} {P F H : Hp} {ρ : Env} {σ : St} (R : Rel T B P F H ρ σ) {Pt c P' : Addr} {oc : Obj} {φ : Heap → Prop} {ps : Array Value} {pos : Pos} (hP : H Pt = some (.tbl ps)) (ht : TriplesOk ps.toList) (hcd : ∀ p cv, codeAmong p ps.toList = some cv → ∃ c P', cv = .ref c ∧ CdAt F c P')
    (ok' : TriplesOk (ps ++ #[rawInt pos.line, rawInt pos.col, .ref c]).toList) (nc : H c = none) (nP : H P' = none) (ne : c ≠ P') (cd : IsCd oc c P') :
    Rel ((P', some c) :: T) B P (upd F c (.frz oc (.ext φ))) (upd (upd (upd H Pt (.tbl (ps ++ #[rawInt pos.line, rawInt pos.col, .ref c]))) P' (.tbl #[])) c (.frz oc (.ext φ))) ρ σ := by
  have fc : F c = none := by
    cases e : F c with
    | none => rfl
    | some o => rw [R.fh c o e] at nc; cases nc
  have fP : F P' = none := by
    cases e : F P' with
    | none => rfl
    | some o => rw [R.fh P' o e] at nP; cases nP
  have cPt : c ≠ Pt := fun z => by rw [z, hP] at nc; cases nc
  have PPt : P' ≠ Pt := fun z => by rw [z, hP] at nP; cases nP
  have at_ : ∀ b, b ≠ Pt → b ≠ P' → b ≠ c → (upd (upd (upd H Pt (.tbl (ps ++ #[rawInt pos.line, rawInt pos.col, .ref c]))) P' (.tbl #[])) c (.frz oc (.ext φ))) b = H b := fun b h1 h2 h3 => by rw [upd_ne h3, upd_ne h2, upd_ne h1]
  have old : ∀ b o, H b = some o → (∀ q, o ≠ .tbl q) → (upd (upd (upd H Pt (.tbl (ps ++ #[rawInt pos.line, rawInt pos.col, .ref c]))) P' (.tbl #[])) c (.frz oc (.ext φ))) b = some o := fun b o e nt => by
    rw [at_ b (fun z => by rw [z, hP] at e; cases e; exact nt _ rfl) (fun z => by rw [z, nP] at e; cases e) (fun z => by rw [z, nc] at e; cases e)]
    exact e
  have sF : Sub F (upd F c (.frz oc (.ext φ))) := sub_upd fc
  have cdN : CdAt (upd F c (.frz oc (.ext φ))) c P' := ⟨oc, φ, upd_same, cd⟩
  have tabP : TabT (upd F c (.frz oc (.ext φ))) (upd (upd (upd H Pt (.tbl (ps ++ #[rawInt pos.line, rawInt pos.col, .ref c]))) P' (.tbl #[])) c (.frz oc (.ext φ))) P' := ⟨#[], by rw [upd_ne (Ne.symm ne), upd_same], trivial, fun p cv e => by simp [codeAmong] at e⟩
  have tabs : ∀ p, TabT F H p → TabT (upd F c (.frz oc (.ext φ))) (upd (upd (upd H Pt (.tbl (ps ++ #[rawInt pos.line, rawInt pos.col, .ref c]))) P' (.tbl #[])) c (.frz oc (.ext φ))) p := fun p x => by
    by_cases e : p = Pt
    · subst e
      refine ⟨_, by rw [upd_ne (Ne.symm cPt), upd_ne (Ne.symm PPt), upd_same], ok', fun q cv h => ?_⟩
      rw [Array.toList_append] at h
      rcases codeAmong_app ps.toList ht h with rfl | h
      · exact ⟨c, P', rfl, cdN⟩
      · obtain ⟨d, Q, q1, q2⟩ := hcd q cv h
        exact ⟨d, Q, q1, q2.mono sF⟩
    · obtain ⟨qs, e1, e2, e3⟩ := x
      refine ⟨qs, ?_, e2, fun q cv h => ?_⟩
      · rw [at_ p e (fun z => by rw [z, nP] at e1; cases e1) (fun z => by rw [z, nc] at e1; cases e1)]; exact e1
      · obtain ⟨d, Q, q1, q2⟩ := e3 q cv h
        exact ⟨d, Q, q1, q2.mono sF⟩
  refine ⟨fun b o e => ?_, fun b o e => old b o (R.ph b o e) (R.ptab b o e), R.len, fun i sv g => ?_, R.dist, ⟨fun q hq => ?_, fun d Q z => ?_⟩, R.ptab, fun b o e => ?_⟩
  · by_cases hb : b = c
    · subst hb; rw [upd_same] at e ⊢; exact e
    · rw [upd_ne hb] at e
      exact old b o (R.fh b o e) (R.ftab b o e)
  · obtain ⟨w, h1, h2⟩ := R.ent i sv g
    refine ⟨w, h1, ?_⟩
    have nn : ∀ b vs, H b = some (.lst vs) → F b = none → (upd F c (.frz oc (.ext φ))) b = none := fun b vs q z => by
      rw [upd_ne]
      · exact z
      · rintro rfl; rw [nc] at q; cases q
    cases sv with
    | val d => exact Rp.mono sF h2
    | own xs => obtain ⟨b, vs, q1, q2, q3, q4, q5⟩ := h2; exact ⟨b, vs, q1, old b _ q2 (fun q z => by cases z), q3.mono sF, nn b vs q2 q4, q5⟩
    | io xs => obtain ⟨b, vs, q1, q2, q3, q4, q5, q6⟩ := h2; exact ⟨b, vs, q1, old b _ q2 (fun q z => by cases z), q3.mono sF, nn b vs q2 q4, q5, q6⟩
    | dc kvs => obtain ⟨b, q1, q2, _⟩ := h2; exact q2.elim
  · rcases List.mem_cons.mp hq with rfl | hq
    · exact ⟨tabP, fun d e => by cases e; exact cdN⟩
    · exact ⟨tabs _ (R.tabs.one q hq).1, fun d e => ((R.tabs.one q hq).2 d e).mono sF⟩
  · obtain ⟨ob, v, e, r⟩ := z
    by_cases hd : d = c
    · subst hd
      rw [upd_same] at e
      cases e
      obtain ⟨vs, _, _, _, _, _, _, _, _, a1, a2, _⟩ := r
      obtain ⟨vs', _, _, _, _, _, _, _, _, b1, b2, _⟩ := cd
      rw [a1] at b1
      cases b1
      rw [a2] at b2
      cases b2
      exact tabP
    · rw [upd_ne hd] at e
      exact tabs _ (R.tabs.all d Q ⟨ob, v, e, r⟩)
  · by_cases hb : b = c
    · subst hb; rw [upd_same] at e; cases e; exact fun q z => by cases z
    · rw [upd_ne hb] at e; exact R.ftab b o e
/-- .. in the heap -/
theorem inv_code {X : Cx} {pins : List (Addr × Obj)} {σ : St} {H : Hp} {s : Shared} {P c P' : Addr} {oc : Obj} {ps more : Array Value} {h' : Heap} {t' : Nat} (I : Inv X pins σ H s) (hP : H P = some (.tbl ps)) (k : ∀ b o, b ≠ P → s.heap.get? b = some o → h'.get? b = some o)
    (hm : h'.get? P = some { cls := .none, data := .fields (ps ++ more) }) (hc : s.heap.objs.size ≤ c) (hP' : s.heap.objs.size ≤ P') (ne : c ≠ P') (ho : h'.get? c = some oc) (ht : h'.get? P' = some { cls := .none, data := .fields #[] }) :
    Inv X pins σ (upd (upd (upd H P (.tbl (ps ++ more))) P' (.tbl #[])) c (.frz oc (.ext fun _ => True))) { s with heap := h', toks := t' } := by
  have nC : H c = none := I.hok.fresh hc
  have nP' : H P' = none := I.hok.fresh hP'
  have nPc : P ≠ c := ne_of_none hP nC
  have nPP : P ≠ P' := ne_of_none hP nP'
  have at_ : ∀ b, b ≠ P → b ≠ P' → b ≠ c → (upd (upd (upd H P (.tbl (ps ++ more))) P' (.tbl #[])) c (.frz oc (.ext fun _ => True))) b = H b := fun b h1 h2 h3 => by rw [upd_ne h3, upd_ne h2, upd_ne h1]
  have atP : (upd (upd (upd H P (.tbl (ps ++ more))) P' (.tbl #[])) c (.frz oc (.ext fun _ => True))) P = some (.tbl (ps ++ more)) := by rw [upd_ne nPc, upd_ne nPP, upd_same]
  have nP : ∀ b u, H b = some u → (∀ q, u ≠ .tbl q) → b ≠ P := fun b u e q z => by
    rw [z, hP] at e
    exact q ps (Option.some.inj e).symm
  have nN : ∀ b, H b = none → b ≠ P := fun b e z => by
    rw [z, hP] at e
    cases e
  have lt' : ∀ b o, s.heap.get? b = some o → b ≠ c ∧ b ≠ P' := fun b o e => ⟨fun z => by
    rw [z] at e
    exact Nat.lt_irrefl _ (Nat.lt_of_lt_of_le (Heap.lt_size e) hc), fun z => by
    rw [z] at e
    exact Nat.lt_irrefl _ (Nat.lt_of_lt_of_le (Heap.lt_size e) hP')⟩
  have sm : ∀ b u, H b = some u → b ≠ c ∧ b ≠ P' := fun b u e => ⟨ne_of_none e nC, ne_of_none e nP'⟩
  have keep : ∀ b u, H b = some u → (∀ q, u ≠ .tbl q) → (upd (upd (upd H P (.tbl (ps ++ more))) P' (.tbl #[])) c (.frz oc (.ext fun _ => True))) b = some u := fun b u e nt => by
    rw [at_ b (nP b _ e nt) (sm b _ e).2 (sm b _ e).1]; exact e
  refine I.step (g' := s.gens) (d' := s.drawn) (ch := []) (fun b hb => absurd hb (by simp)) (fun b o _ _ _ e n => k b o (nN b n) e) (fun b o _ _ _ e n => ⟨o.slots, k b o (nN b n) e⟩)
    (fun b o _ e n => by rw [at_ b (nN b n) (lt' b o e).2 (lt' b o e).1]; exact n) (fun b o _ e => ?_) (fun b xs e => keep b _ e fun q z => by cases z) (fun b o u e => keep b _ e fun q z => by cases z) (fun b qs e => ?_) (fun m hn => ?_) (fun b u e => ?_) I.bare
  · by_cases hb : b = P
    · rw [hb]
      exact ⟨_, hm⟩
    · exact ⟨o, k b o hb e⟩
  · by_cases hb : b = P
    · rw [hb, hP] at e
      cases e
      rw [hb, atP]
      exact ⟨more, rfl⟩
    · rw [at_ b hb (sm b _ e).2 (sm b _ e).1, e]
      exact ⟨#[], by simp⟩
  · obtain ⟨ob, es, ep, ho, r⟩ := hn
    exact ⟨ob, es, ep, k _ ob (nN _ I.free) ho, r⟩
  · by_cases hb : b = c
    · rw [hb, upd_same] at e
      cases e
      rw [hb]
      exact ⟨ho, trivial, ⟨oc, ho⟩, fun h1 h2 _ _ => trivial⟩
    · rw [upd_ne hb] at e
      by_cases hb2 : b = P'
      · rw [hb2, upd_same] at e
        cases e
        rw [hb2]
        exact ht
      · rw [upd_ne hb2] at e
        by_cases hb3 : b = P
        · rw [hb3, upd_same] at e
          cases e
          rw [hb3]
          exact hm
        · rw [upd_ne hb3] at e
          refine (I.hok b u e).stay (fun d v hd q => k d v ?_ q) (fun d q => keep d _ q fun q z => by cases z) fun d xs q => keep d _ q fun q z => by cases z
          rcases hd with z | z
          · rw [z]
            exact hb3
          · exact nP d _ z (fun q z => by cases z)
theorem GW.mono {F0 F1 : Hp} {J : It} {xs : List D} (g : GW F0 J xs) (s : Sub F0 F1) : GW F1 J xs := ⟨fun i H lt q => g.goes i H lt (s.trans q), fun H q => g.stops H (s.trans q), fun i d H x H' e y T B P F ρ σ q R => g.yields i d H x H' e y T B P F ρ σ (s.trans q) R⟩
abbrev genCells (X : Cx) (scope : Scope) (C : Addr) : List (Str × Addr) := cellsFrom (C + 1) scope.names (cloFrom X.env.cells scope.names [])
/-- the running code object at c and its table at Pt: known from the start, or made since -/
def KnownC (X : Cx) (c Pt : Addr) (oc : Option Addr) : Prop := GxR.TabB X.base X.mg c Pt ∨ (oc = some c ∧ ∃ c0 P0, GxR.TabB X.base X.mg c0 P0)
/-- a generator that was just made, at a; s4: ahead of its frame -/
structure GReady (X : Cx) (T : TL) (B : Option Addr) (pins : List (Addr × Obj)) (σ : St) (P F : Hp) (tg : Expr) (ge : Expr) (scope : Scope) (xs : List D) (ρ1 : Env) (a : Addr) (s6 : Shared) (s4 : Shared) (H4 F4 : Hp) (it : Addr) (fp : List Addr) (tn : Nat → Heap → Prop) (J : It) (g : Nat) (go : Obj) (cg Pg : Addr) (m : Str → Option Value) : Prop where
  I : Inv X pins σ H4 s4
  le : Le P F F4
  R : Rel ((Pg, some cg) :: T) B P F4 H4 ρ1 σ
  gw : GW F4 J xs
  Tn : Turn X.prog X.w X.K tg J fp it tn
  st : tn 0 s4.heap
  fp : ∀ b ∈ fp, FpOk X pins H4 b ∧ b < s4.heap.objs.size
  kp : ∀ b o, s4.heap.get? b = some o → s6.heap.get? b = some o
  ns : s6.heap.Ns s4.heap.objs.size m
  os : s6.os = s4.os
  bare : PyProof.Rows.AllBare s6.gens
  at_ : s6.heap.get? a = some go
  isg : ∀ h : Heap, h.get? a = some go → h.IsGen a g
  nc : ∀ v, go.data ≠ .cell v
  gen : s6.gens[g]? = some (.fresh (.compStart ge 0 (.ref it) .none (genEnv scope (genCells X scope s4.heap.objs.size) s4.heap.objs.size (.ref cg) builtinsNs X.env)))
  cells : ∀ y c, (y, c) ∈ genCells X scope s4.heap.objs.size → (y, c) ∈ cloFrom X.env.cells scope.names [] ∨ ((y, NameKind.cell) ∈ scope.names ∧ s4.heap.objs.size + 1 ≤ c ∧ s6.heap.IsCell c none)
  up : s4.heap.objs.size < a
  top : a < s6.heap.objs.size
section
variable {X : Cx} {T : TL} {B : Option Addr} {elt : Expr} {cs : List Comprehension} {scope : Scope} {gpos : Pos} {tg iter : Expr} {ifs : List Expr} {own : List (Str × Nat)} {it : MI}
theorem newEnv_gen {M : Model} {A : Around} {E : Value → Shared → Prop} {s : Shared} {scope : Scope} {globals : Addr} {closure : List (Str × Addr)} {binds : List (Str × Value)} {qual : Str} {func : Option Addr} {code : Value} {builtins : Addr} {Q : PySem.Env → Shared → Prop}
    (hk : scope.kind = .function) (hl : ∀ x ∈ binds, scope.names.lookup x.1 = some .local)
    (hcl : ∀ x y c, (x, c) ∈ closure → (y, c) ∈ closure → x = y) (hlt : ∀ p ∈ closure, p.2 < s.heap.objs.size)
    (hQ : ∀ h' tk m, h'.Ns s.heap.objs.size m → (∀ b o, s.heap.get? b = some o → h'.get? b = some o) → s.heap.objs.size < h'.objs.size → (∀ y c, (y, c) ∈ cellsFrom (s.heap.objs.size + 1) scope.names closure → (y, c) ∈ closure ∨ ((y, NameKind.cell) ∈ scope.names ∧ s.heap.objs.size + 1 ≤ c ∧ h'.IsCell c none)) →
      Q (newEnv scope s.heap.objs.size globals (cellsFrom (s.heap.objs.size + 1) scope.names closure) qual func code none builtins) { s with heap := h', toks := tk }) :
    wpAny M A (newFunctionEnv scope globals closure binds qual func code none builtins) Q E s := by
  simp only [newFunctionEnv, Option.isSome_none, Bool.false_eq_true, if_false]
  refine wpAny_bind (wpAny_alloc ?_)
  refine wpAny_bind (wpAny_layCells _ (fun name kind cells => by cases hkc : kind == NameKind.cell <;> simp [hkc]) _ _ _ _ ?_)
  rw [show ({ s with heap := s.heap.push { cls := .type "frame", data := .dict #[] } } : Shared).heap.objs.size = s.heap.objs.size + 1 from Heap.size_push ..]
  have c0 : ∀ y c, (y, c) ∈ cellsFrom (s.heap.objs.size + 1) scope.names closure → (y, c) ∈ closure ∨ ((y, NameKind.cell) ∈ scope.names ∧ s.heap.objs.size + 1 ≤ c ∧ (pushCells (s.heap.push { cls := .type "frame", data := .dict #[] }) scope.names).IsCell c none) := fun y c hm => by
    rw [← Heap.size_push s.heap { cls := .type "frame", data := .dict #[] }] at hm
    rcases cells_mem hm with h | ⟨h1, h2, h3⟩
    · exact .inl h
    · rw [Heap.size_push] at h2; exact .inr ⟨h1, h2, h3⟩
  generalize henv : newEnv scope s.heap.objs.size globals (cellsFrom (s.heap.objs.size + 1) scope.names closure) qual func code none builtins = env
  have go : ∀ (binds : List (Str × Value)) (m : Str → Option Value) (s1 : Shared), (∀ x ∈ binds, scope.names.lookup x.1 = some .local) → (∃ h tk, s1 = { s with heap := h, toks := tk }) → s1.heap.Ns s.heap.objs.size m → (∀ b o, s.heap.get? b = some o → s1.heap.get? b = some o) → s.heap.objs.size < s1.heap.objs.size →
      (∀ y c, (y, c) ∈ cellsFrom (s.heap.objs.size + 1) scope.names closure → (y, c) ∈ closure ∨ ((y, NameKind.cell) ∈ scope.names ∧ s.heap.objs.size + 1 ≤ c ∧ s1.heap.IsCell c none)) →
      wpAny M A (forIn binds PUnit.unit fun x _ => do storeName env x.1 x.2; pure (ForInStep.yield PUnit.unit)) (fun _ s2 => wpAny M A (pure env) Q E s2) E s1 := by
    intro binds
    induction binds with
    | nil =>
      intro m s1 _ ⟨h, tk, e⟩ ns kp sz cs
      subst e
      rw [List.forIn_nil]
      refine wpAny_pure (wpAny_pure ?_)
      rw [← henv]
      exact hQ h tk m ns kp sz cs
    | cons x r ih =>
      intro m s1 hl ⟨h, tk, e⟩ ns kp sz cs
      subst e
      rw [List.forIn_cons]
      have hx : env.kindOf x.1 = some .local := by rw [← henv]; exact hl x List.mem_cons_self
      have hL : env.locals = s.heap.objs.size := by rw [← henv]; rfl
      have hsc : env.scope.kind = .function := by rw [← henv]; exact hk
      refine wpAny_bind (wpAny_bind (wpAny_storeName_local hx (by rw [hL]; exact ns) (fun h' hn' hs' => ?_) (by rw [hsc]; rfl)))
      rw [hL] at hn' hs'
      refine wpAny_pure (ih _ { s with heap := h', toks := _ } (fun y hy => hl y (List.mem_cons_of_mem _ hy)) ⟨h', _, rfl⟩ hn' (fun b o e => hs'.extBut b o (Nat.ne_of_lt (Heap.lt_size e)) (kp b o e)) ?_ fun y c hm => ?_)
      · show s.heap.objs.size < h'.objs.size
        rw [hs'.1]; exact sz
      · rcases cs y c hm with q | ⟨q1, q2, q3⟩
        · exact .inl q
        · exact .inr ⟨q1, q2, q3.sameBut hs' (Nat.ne_of_gt q2)⟩
  subst henv
  refine wpAny_bind (thn (go binds (fun _ => none) _ hl ⟨_, _, rfl⟩ ((Heap.Ns.new s.heap (.type "frame")).keeps (pushCells_keeps _ _)) (fun b o e => pushCells_keeps _ _ b o (Heap.get?_push_of_some _ e)) ?_ c0) fun _ s2 h => h)
  show s.heap.objs.size < (pushCells (s.heap.push _) scope.names).objs.size
  have := pushCells_size scope.names (s.heap.push { cls := .type "frame", data := .dict #[] })
  rw [Heap.size_push] at this
  omega
theorem gen_make {c Pt : Addr} {oc : Option Addr} {k : Nat} {pins : List (Addr × Obj)} {s : Shared} {σ : St} {H P F : Hp} {ρ ρ1 : Env} {xs : List D} {Q' : Value → Shared → Prop} (hr : Room k X.A) (TB : KnownC X c Pt oc) (hT : (Pt, oc) ∈ T) (hcode : X.env.code = .ref c) (hi : PI X tg iter (rdI T B it)) (ok : BlkOk X.N X.env.scope scope own)
    (hco : scope.isCoroutine = false) (dot : scope.names.lookup (".0" : Str) = some NameKind.local) (hs : ∀ x, foldedSetIterable iter X.env x = pure x) (hl : notLst iter = true)
    (I : Inv X pins σ H s) (R : Rel T B P F H ρ σ) (ev : it ρ = some (xs, ρ1))
    (hQ : ∀ a s6 s4 H4 F4 itA fp tn J g go cg Pg m, GReady X T B pins σ P F tg (.GeneratorExp elt (⟨tg, iter, ifs, 0⟩ :: cs) scope gpos) scope xs ρ1 a s6 s4 H4 F4 itA fp tn J g go cg Pg m → Q' (.ref a) s6) :
    wpAny (model X.prog X.w) X.A (eval (.GeneratorExp elt (⟨tg, iter, ifs, 0⟩ :: cs) scope gpos) X.env) Q' X.xe s := by
  rw [eval_gen _ _ _ _ _ _ _ _ hco hl]
  have hfree : ∀ y ∈ scope.names, y.2 = .free → ∃ c, X.env.cells.lookup y.1 = some c := fun y hy e => by
    rcases ok.free y hy e with k | k
    · exact I.ok.has _ (.inl k)
    · exact I.ok.has _ (.inr k)
  rw [closure_ok hfree]
  refine wpAny_bind (thn (hi.run pins s σ H (fun J H' => ∃ F', Le P F F' ∧ Rel T B P F' H' ρ1 σ ∧ GW F' J xs) I ⟨P, F, ρ, xs, ρ1, R, ev, fun J H' F' l' R' gw' => ⟨F', l', R', gw'⟩⟩) fun xv s1 hx => ?_)
  refine wpAny_bind (wpAny_standAt (wpAny_bind (wpAny_of_eq (hs xv) (wpAny_bind (wpAny_holding (thn hx fun itv s2 h2 => ?_))))))
  obtain ⟨itA, fp, tn, J, H2, e, I2, Tn, st2, f2, F2, l2, R2, gw⟩ := h2
  subst e
  refine wpAny_bind (wpAny_enterFrame I2.nolimit (by have := hr.dp; omega) ?_)
  refine wpAny_bind (wpAny_pure ?_)
  obtain ⟨⟨ps, hP, ht, hcd⟩, hkn⟩ := R2.tabs.one _ hT
  have hPs : s2.heap.get? Pt = some { cls := .none, data := .fields ps } := I2.hok Pt _ hP
  have cd : PySem.W.CodeHd s2.heap c Pt := by
    rcases TB with TB | ⟨e, _⟩
    · exact TB.code.keeps fun b u e => I2.bk b u e
    · obtain ⟨o, u, e1, e2⟩ := hkn c e
      exact e2.hd (I2.hok c _ (R2.fh _ _ e1)).1
  have bmx : X.base.BuiltinsAt X.mg Pt := by
    rcases TB with TB | ⟨_, c0, P0, TB⟩
    · exact TB.bm
    · obtain ⟨bm, ob, e1, e2, e3, e4, e5, r⟩ := TB.bm
      refine ⟨bm, ob, e1, e2, e3, fun z => ?_, e5, r⟩
      have := (I2.bs bm ob e5).2
      rw [z, hP] at this
      cases this
  have gPx : mainGlobals ≠ Pt := by
    intro z
    obtain ⟨o, es, ep, e1, _⟩ := I2.mod.glob
    have := (I2.bs _ _ e1).2
    rw [z, hP] at this
    cases this
  have szf : ∀ b ∈ fp, b < s2.heap.objs.size := fun b hb => by
    obtain ⟨o, e, _⟩ := Tn.obj _ _ st2 b hb
    exact Heap.lt_size e
  have cont : ∀ (cg Pg : Addr) (h3 : Heap) (tk : Nat) (H4 F4 : Hp), Heap.ExtBut Pt s2.heap h3 → s2.heap.objs.size ≤ h3.objs.size → Inv X pins σ H4 { s2 with heap := h3, toks := tk } → Le P F2 F4 → Rel ((Pg, some cg) :: T) B P F4 H4 ρ1 σ → (∀ b, b < s2.heap.objs.size → b ≠ Pt → H4 b = H2 b) →
      wpAny (model X.prog X.w) X.A (builtinsFor X.env.globals X.env.builtins) (fun bi s4 => wpAny (model X.prog X.w) X.A (newFunctionEnv scope X.env.globals (cloFrom X.env.cells scope.names []) [(".0", .ref itA)] (X.env.qual ++ "<genexpr>.") none (.ref cg) none bi) (fun cenv s5 =>
        wpAny (model X.prog X.w) X.A (newGenerator (.compStart (.GeneratorExp elt (⟨tg, iter, ifs, 0⟩ :: cs) scope gpos) 0 (.ref itA) .none cenv) "<genexpr>" (X.env.qual ++ "<genexpr>")) Q' X.xe s5) X.xe s4) X.xe { s2 with heap := h3, toks := tk } := by
    intro cg Pg h3 tk H4 F4 hx hsz I4 l4 R4 hH
    obtain ⟨bm, ob, e1, e2, e3, e4, e5, e6, e7, e8⟩ := bmx
    have kp3 : ∀ b u, b ≠ Pt → s2.heap.get? b = some u → h3.get? b = some u := fun b u hb e => hx b u hb e
    refine wpAny_builtinsFor (m := X.mg) (by rw [I2.ok.glob]; exact (I2.mod.glob.keeps I2.bk).extBut hx gPx) e1 e2 (kp3 _ _ e4 (I2.bk _ _ e5)) e6 e7 e8 ?_
    have hbinds : ∀ y ∈ ([((".0" : Str), Value.ref itA)] : List (Str × Value)), scope.names.lookup y.1 = some NameKind.local := by
      intro y hy
      rcases List.mem_cons.mp hy with rfl | hy
      · exact dot
      · cases hy
    have cm : ∀ {y c}, (y, c) ∈ cloFrom X.env.cells scope.names [] → X.env.cells.lookup y = some c ∧ c < h3.objs.size := fun {y c} hm => by
      rcases cloFrom_mem hm with hm | ⟨h1, rfl⟩
      · cases hm
      · obtain ⟨c, hc⟩ := hfree _ h1 rfl
        rw [hc]
        obtain ⟨w, z⟩ := I4.cell _ _ hc
        exact ⟨rfl, z.lt⟩
    refine newEnv_gen ok.kind hbinds (fun x y c h1 h2 => I2.ok.inj x y c (cm h1).1 (cm h2).1) (fun p hp => (cm (y := p.1) (c := p.2) hp).2) (fun h4 tk4 m hn4 kp4 sz4 cs4 => ?_)
    simp only [newGenerator, newFields]
    refine wpAny_bind (wpAny_newGen (wpAny_bind (wpAny_mkText (wpAny_bind (wpAny_mkText (wpAny_newObj_type ?_ (by size_fits)))))))
    refine hQ _ _ { s2 with heap := h3, toks := tk } H4 F4 itA fp tn J _ _ cg Pg _ {
      I := I4, le := l2.trans l4, R := R4, gw := gw.mono l4.up, Tn := Tn
      st := Tn.keep _ _ _ st2 fun b hb o e => kp3 b o (fun z => by have := (f2 b hb).1; rw [z, hP] at this; cases this) e
      fp := fun b hb => ⟨⟨by rw [hH b (szf b hb) (fun z => by have := (f2 b hb).1; rw [z, hP] at this; cases this)]; exact (f2 b hb).1, (f2 b hb).2⟩, Nat.lt_of_lt_of_le (szf b hb) hsz⟩
      kp := fun b o e => Heap.get?_push_of_some _ (kp4 b o e)
      ns := hn4.push _
      os := rfl
      bare := I2.bare.push rfl
      at_ := Heap.get?_push_size _ rfl
      isg := fun h e => ⟨_, _, _, e, rfl, rfl, rfl⟩
      nc := fun v z => by cases z
      gen := Array.getElem?_push_size ..
      cells := fun y c hm => by
        rcases cs4 y c hm with q | ⟨q1, q2, q3⟩
        · exact .inl q
        · exact .inr ⟨q1, q2, q3.keeps fun b o e => Heap.get?_push_of_some _ e⟩
      up := sz4
      top := by show h4.objs.size < (h4.push _).objs.size; rw [Heap.size_push]; omega }
  cases hf : codeAmong gpos ps.toList with
  | none =>
    refine wpAny_bind (wpAny_genexprCodeX hcode (cd.code hPs ht) (cd.tab hPs) hf fun c' h' tk hx hge hlt hco' hrc htab' hnew => ?_)
    obtain ⟨P', hP'ge, hIs, hTb⟩ := hnew
    obtain ⟨o1, vs, f1, tf, fl, tgx, inF, tx, tt, op, _, _, _, _, _, _, _, _, _, htr, _⟩ := hco'
    obtain ⟨oc', e1, icd⟩ := IsCd.of (PySem.W.CodeHd.of hIs hTb)
    have ne' : c' ≠ P' := by obtain ⟨_, _, _, _, _, _, _, _, _, _, _, _, _, _, _, _, q⟩ := icd; exact q
    have I4 := inv_code (t' := tk) I2 hP (fun b o hb e => hx b o hb e) htab'.2 hge hP'ge ne' e1 hTb.2
    have R4 := R2.code (φ := fun _ => True) (pos := gpos) hP ht hcd htr (I2.hok.fresh hge) (I2.hok.fresh hP'ge) ne' icd
    have fc : F2 c' = none := R2.fNone (I2.hok.fresh hge)
    have pc : P c' = none := R2.pNone (I2.hok.fresh hge)
    exact wpAny_bind (thn (cont c' P' h' tk _ _ hx (Nat.le_trans hge (Nat.le_of_lt hlt)) I4 (le_upd fc pc) R4 fun b hb hbt => by
      rw [upd_ne (Nat.ne_of_lt (Nat.lt_of_lt_of_le hb hge)), upd_ne (Nat.ne_of_lt (Nat.lt_of_lt_of_le hb hP'ge)), upd_ne hbt]) fun bi s4 h4 => wpAny_bind (thn h4 fun cenv s5 h5 => h5))
  | some cv =>
    obtain ⟨cg, Pg, rfl, kd⟩ := hcd gpos cv hf
    refine wpAny_bind (wpAny_genexprCode_hit hcode (cd.code hPs ht) hf ?_)
    have R4 : Rel ((Pg, some cg) :: T) B P F2 H2 ρ1 σ := ⟨R2.fh, R2.ph, R2.len, R2.ent, R2.dist, ⟨fun q hq => by
      rcases List.mem_cons.mp hq with rfl | hq
      · exact ⟨R2.tabs.all _ _ kd, fun d e => by cases e; exact kd⟩
      · exact R2.tabs.one q hq, R2.tabs.all⟩, R2.ptab, R2.ftab⟩
    have := cont cg Pg s2.heap s2.toks H2 F2 (Heap.ExtBut.refl _ _) (Nat.le_refl _) I2 (Le.refl _ _) R4 fun b _ _ => rfl
    exact wpAny_bind (thn this fun bi s4 h4 => wpAny_bind (thn h4 fun cenv s5 h5 => h5))
end
end LH
end

section
set_option Elab.async false
set_option linter.all false
set_option maxRecDepth 100000
set_option maxHeartbeats 2000000
/-! Generator expressions used up: any, all. -/
namespace LH
open PySem PySem.Spec L2
theorem over_gen {A : Around} {elt : Expr} {gens : List Comprehension} {scope : Scope} {pos : Pos} {it : Value} {env : PySem.Env} : A.over (.compLoop (.GeneratorExp elt gens scope pos) 0 it .none env) [] = A.deeper env := by
  first
    | rfl
    | (obtain ⟨hd, d, fr, gs, u⟩ := A; simp [Around.over, Around.deeper, marksOver, frameCount, unitsOf, envsOf, guardsOf, pushEnvs, pushGuards, Code.envs, Code.env?, Code.isFrame, Code.guards, Code.isGuard, Code.weight, Code.frames, Code.isCreation, Code.isCaller, Code.cUnits])
theorem over_gstart {A : Around} {elt : Expr} {gens : List Comprehension} {scope : Scope} {pos : Pos} {it : Value} {env : PySem.Env} : A.over (.compStart (.GeneratorExp elt gens scope pos) 0 it .none env) [] = A.deeper env := by
  first
    | rfl
    | (obtain ⟨hd, d, fr, gs, u⟩ := A; simp [Around.over, Around.deeper, marksOver, frameCount, unitsOf, envsOf, guardsOf, pushEnvs, pushGuards, Code.envs, Code.env?, Code.isFrame, Code.guards, Code.isGuard, Code.weight, Code.frames, Code.isCreation, Code.isCaller, Code.cUnits])
section
variable {X : Cx} {T : TL} {B : Option Addr} {elt : Expr} {dE : ME} {gk : GK} {cs : List Comprehension} {scope : Scope} {gpos : Pos} {tg iter : Expr} {ifs : List Expr} {own : List (Str × Nat)} {it : MI} {g : MG} {mt : MT} {cls : List Cl} {kg : Nat}
/-- what the parts of a generator expression must do, in every context that its body may run in -/
structure GenOf (kg : Nat) (X : Cx) (T : TL) (B : Option Addr) (scope : Scope) (own : List (Str × Nat)) (tg : Expr) (ifs : List Expr) (cs : List Comprehension) (elt : Expr) (g : MG) (mt : MT) (cls : List Cl) (dE : ME) : Prop where
  g : ∃ ts, (∀ j ∈ ts, j ∈ own.map (·.2)) ∧ ∀ (A : Around) (s : Shared) (H : Hp) (cl : List (Str × Addr)) (C : Addr) (cg Pg : Addr) (fp : List Addr), Room kg (A.deeper (genEnv scope cl C (.ref cg) builtinsNs X.env)) → PG (genCx X A s H (genEnv scope cl C (.ref cg) builtinsNs X.env) fp) tg (rdG ((Pg, some cg) :: T) B ts g)
  ifs : ∀ (A : Around) (s : Shared) (H : Hp) (cl : List (Str × Addr)) (C : Addr) (cg Pg : Addr) (fp : List Addr), Room kg (A.deeper (genEnv scope cl C (.ref cg) builtinsNs X.env)) → PTs (genCx X A s H (genEnv scope cl C (.ref cg) builtinsNs X.env) fp) ifs (rdT ((Pg, some cg) :: T) B mt)
  elt : ∀ (A : Around) (s : Shared) (H : Hp) (cl : List (Str × Addr)) (C : Addr) (cg Pg : Addr) (fp : List Addr), Room kg (A.deeper (genEnv scope cl C (.ref cg) builtinsNs X.env)) → PE (genCx X A s H (genEnv scope cl C (.ref cg) builtinsNs X.env) fp) elt (rdE ((Pg, some cg) :: T) B dE)
  rest : ∀ (A : Around) (s : Shared) (H : Hp) (cl : List (Str × Addr)) (C : Addr) (cg Pg : Addr) (fp : List Addr), Room kg (A.deeper (genEnv scope cl C (.ref cg) builtinsNs X.env)) → ClsOk ((Pg, some cg) :: T) B (genCx X A s H (genEnv scope cl C (.ref cg) builtinsNs X.env) fp) cs cls
  sub : ∀ c' ∈ cls, ∀ j ∈ c'.ts, j ∈ own.map (·.2)
theorem gen_goes (hc : X.calm = true) (hN : X.N.Nodup) (ok : BlkOk X.N X.env.scope scope own) (hco : scope.isCoroutine = false) (parts : GenOf kg X T B scope own tg ifs cs elt g mt cls dE)
    {pins : List (Addr × Obj)} {σ : St} {P F : Hp} {xs : List D} {ρ1 : Env} {a : Addr} {s6 s4 : Shared} {H4 F4 : Hp} {itA : Addr} {fp : List Addr} {tn : Nat → Heap → Prop} {J : It} {gi : Nat} {go : Obj} {cg Pg : Addr} {m : Str → Option Value}
    (Rd : GReady X T B pins σ P F tg (.GeneratorExp elt (⟨tg, iter, ifs, 0⟩ :: cs) scope gpos) scope xs ρ1 a s6 s4 H4 F4 itA fp tn J gi go cg Pg m)
    {A : Around} (hA : A.frames = some X.stack) (hh : A.handled = none) (hr : Room kg (A.deeper (genEnv scope (genCells X scope s4.heap.objs.size) s4.heap.objs.size (.ref cg) builtinsNs X.env)))
    {tie : List Value → List (Addr × Obj) → Prop} {ca : List Addr} (htc : ∀ us cons, tie us cons → cons.map (·.1) = ca)
    {s₀ s7 : Shared} {cons : List (Addr × Obj)} (htie : tie [] cons) (kp : ∀ b o, s6.heap.get? b = some o → s7.heap.get? b = some o) (hos : s7.os = s6.os) (hb : PyProof.Rows.AllBare s7.gens)
    (hcons : ∀ p ∈ cons, s7.heap.get? p.1 = some p.2 ∧ s4.heap.objs.size < p.1 ∧ ∀ v, p.2.data ≠ .cell v)
    {ys : List D} {st : Bool} {ρe : Env} (ev : walkS (turnS (own.map (·.2)) g mt (clausesS (emitS gk dE) cls)) xs (wipeE ρ1 (own.map (·.2))) = some (ys, st, ρe)) :
    Seg (model X.prog X.w) A (gR (genCx X A s4 H4 (genEnv scope (genCells X scope s4.heap.objs.size) s4.heap.objs.size (.ref cg) builtinsNs X.env) fp) ((Pg, some cg) :: T) B P F4 tie ys st ρe (own.map (·.2)) (wipe σ (own.map (·.2))))
      (gY (genCx X A s4 H4 (genEnv scope (genCells X scope s4.heap.objs.size) s4.heap.objs.size (.ref cg) builtinsNs X.env) fp) ((Pg, some cg) :: T) B P F4 tie ca ys st ρe (own.map (·.2)) (wipe σ (own.map (·.2)))) ys.length s₀
      (.compStart (.GeneratorExp elt (⟨tg, iter, ifs, 0⟩ :: cs) scope gpos) 0 (.ref itA) .none (genEnv scope (genCells X scope s4.heap.objs.size) s4.heap.objs.size (.ref cg) builtinsNs X.env))
      ((model X.prog X.w).den (.compStart (.GeneratorExp elt (⟨tg, iter, ifs, 0⟩ :: cs) scope gpos) 0 (.ref itA) .none (genEnv scope (genCells X scope s4.heap.objs.size) s4.heap.objs.size (.ref cg) builtinsNs X.env))) [] s7 := by
  have I0 := gen_start Rd.I ok hN Rd.fp hA hh (s2 := s7) (m := m) (fun b o e => kp b o (Rd.kp b o e)) (let ⟨ob, es, ep, ho, r⟩ := Rd.ns; ⟨ob, es, ep, kp _ _ ho, r⟩) (hos.trans Rd.os) hb (.ref cg) (fun y c hm => (Rd.cells y c hm).imp id fun ⟨q1, q2, q3⟩ => ⟨q1, q2, _, q3.keeps kp⟩)
  obtain ⟨ts, hts, hg⟩ := parts.g
  have pg := hg A s4 H4 (genCells X scope s4.heap.objs.size) s4.heap.objs.size cg Pg fp hr
  have pt := parts.ifs A s4 H4 (genCells X scope s4.heap.objs.size) s4.heap.objs.size cg Pg fp hr
  have pe := parts.elt A s4 H4 (genCells X scope s4.heap.objs.size) s4.heap.objs.size cg Pg fp hr
  have pc := parts.rest A s4 H4 (genCells X scope s4.heap.objs.size) s4.heap.objs.size cg Pg fp hr
  generalize hce : genEnv scope (genCells X scope s4.heap.objs.size) s4.heap.objs.size (.ref cg) builtinsNs X.env = ce at I0 pg pt pe pc hr ⊢
  have cL : ce.locals = s4.heap.objs.size := by subst hce; rfl
  have cco : ce.scope.isCoroutine = false := by subst hce; exact hco
  have nstk : ∀ b, s4.heap.objs.size ≤ b → b ∉ frs X.stack := fun b hb z => by
    rcases List.mem_cons.mp (Rd.I.stkSub b z) with z | z
    · obtain ⟨m', ⟨ob, es, ep, ho, _⟩, _⟩ := Rd.I.loc
      have := Heap.lt_size ho
      rw [z] at hb
      exact absurd (Nat.lt_of_lt_of_le this hb) (Nat.lt_irrefl _)
    · exact Rd.I.nofs hb z
  have I1 : Inv (genCx X A s4 H4 ce fp) (cons ++ []) (wipe σ (own.map (·.2))) H4 s7 := by
    rw [List.append_nil]
    refine I0.pins_of fun p hp => ?_
    obtain ⟨h1, h2, h3⟩ := hcons p hp
    exact ⟨h1, Rd.I.hok.fresh (Nat.le_of_lt h2), by show p.1 ≠ ce.locals; rw [cL]; exact Nat.ne_of_gt h2, nstk p.1 (Nat.le_of_lt h2), h3⟩
  have st7 : tn 0 s7.heap := Rd.Tn.keep _ _ _ Rd.st fun b _ o e => kp b o (Rd.kp b o e)
  have fpB : ∀ b ∈ fp, FpOk (genCx X A s4 H4 ce fp) (cons ++ []) H4 b := fun b hb =>
    ⟨(Rd.fp b hb).1.1, (I0.ok.exf b hb).1, I0.ok.exfs b hb, .inl hb, fun x c e => (I0.ok.exf b hb).2 x c e, fun p hp => by
      have hp : p ∈ cons := by simpa using hp
      obtain ⟨_, h2, _⟩ := hcons p hp
      exact Nat.ne_of_gt (Nat.lt_trans (Rd.fp b hb).2 h2)⟩
  have hov : A.over (.compLoop (.GeneratorExp elt (⟨tg, iter, ifs, 0⟩ :: cs) scope gpos) 0 (.ref itA) .none ce) [] = A.deeper ce := over_gen
  refine seg_gstart (X := genCx X A s4 H4 ce fp) (d := 0) (t := tg) (i := iter) (ifs := ifs) rfl (fun Q E q => by rw [show A.over (.compStart (.GeneratorExp elt (⟨tg, iter, ifs, 0⟩ :: cs) scope gpos) 0 (.ref itA) .none ce) [] = A.deeper ce from over_gstart]; exact Rd.Tn.self _ 0 s7 Q E st7 q) ?_
  have loop := gen_loop (X := genCx X A s4 H4 ce fp) (T := (Pg, some cg) :: T) (B := B) (dE := dE) (gk := gk) (gens := ⟨tg, iter, ifs, 0⟩ :: cs) (scope := scope) (pos := gpos) hc rfl pe cco (A := A) (P := P) (F0 := F4) (tie := tie) (ca := ca) htc (ys := ys) (st := st) (ρe := ρe) (own := own.map (·.2)) (σ0 := wipe σ (own.map (·.2)))
    cls cs pc parts.sub 0 tg iter ifs ts (own.map (·.2)) g mt rfl rfl pg hts (fun j hj => hj) pt parts.sub itA fp tn J Rd.Tn [] hov rfl rfl [] (fun p hp => by cases hp) (wipe σ (own.map (·.2))) F4 xs ρe st [] Rd.gw (Le.refl _ _) (wipe_idem fun j hj => hj)
    (fun j hj v z => by
      rw [wipe_get, if_pos hj] at z
      cases e : σ[j]? with
      | none => rw [e] at z; cases z
      | some q => rw [e] at z; cases z)
    (fun h => ⟨rfl, h, rfl⟩) (fun h _ => h)
    (fun h s₀' s' H' F' σq cons' us' hist' dnE ht' hv' hr' hE I' l' R' w' => seg_end (.ok .next) ⟨rfl, rfl, h, _, σq, H', F', cons', [], us', hist', ht', I', hv', by rw [hE, List.append_nil]; exact hr', l', R', w'⟩)
    xs.length s₀ s7 H4 F4 (wipeE ρ1 (own.map (·.2))) (wipe σ (own.map (·.2))) cons [] [] [] ys 0 (Nat.sub_zero _).symm htie I1 .nil .nil st7 fpB (Le.refl _ _) (Rd.R.wiped _) (wipe_idem fun j hj => hj) (Nat.zero_le _) ev (by simp)
  simpa using loop
/-- while the generator sleeps only what is at ca has changed -/
theorem inv_taken {X : Cx} {σ : St} {H : Hp} {s s2 : Shared} {cons cons2 ip : List (Addr × Obj)} {ca : List Addr} (I : Inv X (cons ++ ip) σ H s) (hpn : X.pn = []) (hip : ∀ p ∈ ip, p.1 ∉ ca) (hca : cons.map (·.1) = ca) (hsz : ∀ b ∈ ca, X.s_0.heap.objs.size ≤ b)
    (hcell : ∀ b ∈ ca, ∀ x c, X.env.cells.lookup x = some c → c ≠ b) (hca2 : cons2.map (·.1) = ca) (at2 : ∀ p ∈ cons2, s2.heap.get? p.1 = some p.2 ∧ ∀ v, p.2.data ≠ .cell v) (kp : ∀ b o, b ∉ ca → s.heap.get? b = some o → s2.heap.get? b = some o)
    (hos : s2.os = s.os) (hb : PyProof.Rows.AllBare s2.gens) : Inv X (cons2 ++ ip) σ H s2 := by
  have I0 : Inv X ip σ H s := I.pins_of fun p hp => I.pin p (List.mem_append_right _ (List.mem_append_right _ hp))
  have ofca : ∀ b ∈ ca, H b = none ∧ b ≠ X.env.locals ∧ b ∉ X.fs := fun b hb => by
    rw [← hca] at hb
    obtain ⟨p, hp, rfl⟩ := List.mem_map.mp hb
    obtain ⟨_, h2, h3, h4, _⟩ := I.pin p (List.mem_append_right _ (List.mem_append_left _ hp))
    exact ⟨h2, h3, h4⟩
  obtain ⟨hh, gs, dr, tk, osx⟩ := s2
  have ho : osx = s.os := hos
  subst ho
  have nt : ∀ b u, H b = some u → b ∉ ca := fun b u q hb => by rw [(ofca b hb).1] at q; cases q
  have J : Inv X ip σ H { s with heap := hh, gens := gs, drawn := dr, toks := tk } := by
    refine I0.step (g' := gs) (t' := tk) (d' := dr) (ch := ca) (fun b hb => ⟨.inr (hsz b hb), (ofca b hb).2.1, hcell b hb, fun p hp => ?_⟩)
      (fun b ob _ _ hc q _ => kp b ob hc q) (fun b ob _ _ hc q _ => ⟨ob.slots, kp b ob hc q⟩) (fun _ _ _ _ n => n) (fun b ob hc q => ⟨ob, kp b ob hc q⟩)
      (fun _ _ q => q) (fun _ _ _ q => q) (fun b ps q => ⟨#[], by rw [q]; simp⟩) (fun m hm => ?_) (fun b u q => ?_) hb
    · rcases List.mem_append.mp hp with z | z
      · rw [hpn] at z; cases z
      · intro e; exact hip p z (e ▸ hb)
    · obtain ⟨ob, es, ep, ho, r⟩ := hm
      exact ⟨ob, es, ep, kp _ ob (fun z => (ofca _ z).2.1 rfl) ho, r⟩
    · refine (I0.hok b u q).stay (fun c v hc y => kp c v ?_ y) (fun _ y => y) fun _ _ y => y
      rcases hc with y | y
      · rw [y]; exact nt b u q
      · exact nt c _ y
  refine J.pins_of fun p hp => ?_
  rcases List.mem_append.mp hp with z | z
  · have hm : p.1 ∈ ca := by rw [← hca2]; exact List.mem_map_of_mem z
    obtain ⟨q1, q2, q3⟩ := ofca p.1 hm
    obtain ⟨q4, q5⟩ := at2 p z
    exact ⟨q4, q1, q2, q3, q5⟩
  · exact J.pin p (List.mem_append_right _ z)
/-- what is left to run -/
structure Live (A : Around) (M : Model) (R : GenEnd) (Y : Protocol) (a : Addr) (go : Obj) (gi n : Nat) (s : Shared) : Prop where
  at_ : s.heap.get? a = some go
  lim : s.heap.NoLimit
  gs : ∃ gs, s.gens[gi]? = some gs ∧ gs.Goes M A R Y n (.send .none) (s.setGen gi .running)
theorem bare_set {s : Shared} {gi : Nat} {gs : GenState} (h : PyProof.Rows.AllBare s.gens) (hb : gs.bare = true) : PyProof.Rows.AllBare (s.setGen gi gs).gens := fun y hy => by
  have hy : y ∈ s.gens.setIfInBounds gi gs := hy
  obtain ⟨i, hi, e⟩ := Array.mem_iff_getElem.mp hy
  rw [Array.size_setIfInBounds] at hi
  by_cases z : gi = i
  · subst z
    rw [Array.getElem_setIfInBounds_self] at e
    subst e; exact hb
  · rw [Array.getElem_setIfInBounds_ne hi z] at e
    subst e
    exact h _ (Array.getElem_mem hi)
/-- how all ended -/
def Fin (X : Cx) (T : TL) (B : Option Addr) (P F0 : Hp) (ρe : Env) (own : List Nat) (σ0 : St) (s : Shared) : Prop :=
  ∃ pins σ' H F σq, Inv X pins σ' H s ∧ Le P F0 F ∧ Rel T B P F H ρe σq ∧ wipe σq own = σ0
/-- all has come out -/
structure AllOut (X : Cx) (T : TL) (B : Option Addr) (P F0 : Hp) (tie : List Value → List (Addr × Obj) → Prop) (ys : List D) (ρe : Env) (own : List Nat) (σ0 : St) (s : Shared) (cons ip : List (Addr × Obj)) (us : List Value) (hist : List V) (σ' σq : St) (H F : Hp) : Prop where
  held : tie us cons
  I : Inv X (cons ++ ip) σ' H s
  vals : Vals hist us
  rl : RpL F hist ys
  le : Le P F0 F
  R : Rel T B P F H ρe σq
  w : wipe σq own = σ0
theorem AllOut.fin {X : Cx} {T : TL} {B : Option Addr} {P F0 : Hp} {tie : List Value → List (Addr × Obj) → Prop} {ys : List D} {ρe : Env} {own : List Nat} {σ0 : St} {s : Shared} {cons ip : List (Addr × Obj)} {us : List Value} {hist : List V} {σ' σq : St} {H F : Hp}
    (h : AllOut X T B P F0 tie ys ρe own σ0 s cons ip us hist σ' σq H F) : Fin X T B P F0 ρe own σ0 s := ⟨_, σ', H, F, σq, h.I, h.le, h.R, h.w⟩
/-- an item that came out, n were left -/
structure Out (X : Cx) (T : TL) (B : Option Addr) (P F0 : Hp) (tie : List Value → List (Addr × Obj) → Prop) (ca : List Addr) (ys : List D) (st : Bool) (ρe : Env) (own : List Nat) (σ0 : St) (A : Around) (a : Addr) (go : Obj) (gi n : Nat) (v : Value) (s : Shared) (x : V) (d : D) (H F : Hp) (σ' : St) (cons ip : List (Addr × Obj)) (us : List Value) (hist : List V) : Prop where
  pos : n ≠ 0
  rx : RelV x v
  rp : Rp F x d
  get : ys[ys.length - n]? = some d
  held : tie us cons
  vals : Vals hist us
  rl : RpL F hist (ys.take (ys.length - n))
  I : Inv X (cons ++ ip) σ' H s
  ip : ∀ p ∈ ip, p.1 ∉ ca
  rel : ∃ ρ', Rel T B P F H ρ' σ'
  le : Le P F0 F
  alt : (n = 1 ∧ st = true ∧ ∀ s2, s2.heap = s.heap → s2.os = s.os → PyProof.Rows.AllBare s2.gens → Fin X T B P F0 ρe own σ0 s2) ∨
    ((n = 1 → st = false) ∧ ∀ (s2 : Shared) (cons2 : List (Addr × Obj)), tie (us ++ [v]) cons2 → (∀ p ∈ cons2, s2.heap.get? p.1 = some p.2 ∧ ∀ v, p.2.data ≠ .cell v) → (a, go) ∈ cons2 → (∀ b o, b ∉ ca → s.heap.get? b = some o → s2.heap.get? b = some o) → s2.os = s.os → s2.gens = s.gens →
      Live A (model X.prog X.w) (gR X T B P F0 tie ys st ρe own σ0) (gY X T B P F0 tie ca ys st ρe own σ0) a go gi (n - 1) s2)
/-- the taker can take one more -/
def Takes1 (tie : List Value → List (Addr × Obj) → Prop) (ca : List Addr) : Prop := ∀ us cons v (s1 : Shared), tie us cons → (∀ p ∈ cons, s1.heap.get? p.1 = some p.2) →
  ∃ (s2 : Shared) (cons2 : List (Addr × Obj)), tie (us ++ [v]) cons2 ∧ (∀ p ∈ cons2, s2.heap.get? p.1 = some p.2 ∧ ∀ v, p.2.data ≠ .cell v) ∧ (∀ b o, b ∉ ca → s1.heap.get? b = some o → s2.heap.get? b = some o) ∧ s2.os = s1.os ∧ s2.gens = s1.gens
/-- the taker's turn: an item, or the end -/
theorem pull {X : Cx} {T : TL} {B : Option Addr} {P F0 : Hp} {tie : List Value → List (Addr × Obj) → Prop} {ca : List Addr} {ys : List D} {st : Bool} {ρe : Env} {own : List Nat} {σ0 : St} {A0 : Around} {a : Addr} {go : Obj} {gi n : Nat} {s : Shared} {E : Value → Shared → Prop}
    (htc : ∀ us cons, tie us cons → cons.map (·.1) = ca) (htk : Takes1 tie ca) (hpn : X.pn = []) (hh : A0.handled = none) (hd : A0.depth < recursionLimit) (isg : ∀ h : Heap, h.get? a = some go → h.IsGen a gi) (hsz : ∀ b ∈ ca, X.s_0.heap.objs.size ≤ b) (hcell : ∀ b ∈ ca, ∀ x c, X.env.cells.lookup x = some c → c ≠ b)
    (hn : n ≤ ys.length) (hn0 : n = 0 → st = false) (L : Live A0.in1 (model X.prog X.w) (gR X T B P F0 tie ys st ρe own σ0) (gY X T B P F0 tie ca ys st ρe own σ0) a go gi n s) :
    wpAny (model X.prog X.w) A0 (pyNext (.ref a)) (fun r s' => match r with
      | none => n = 0 ∧ st = false ∧ ∃ cons ip us hist σ' σq H F, AllOut X T B P F0 tie ys ρe own σ0 s' cons ip us hist σ' σq H F
      | some v => ∃ x d H F σ' cons ip us hist, Out X T B P F0 tie ca ys st ρe own σ0 A0.in1 a go gi n v s' x d H F σ' cons ip us hist) E s := by
  obtain ⟨gs, h1, h2⟩ := L.gs
  have hgi : gi + 1 ≤ s.gens.size := (Array.getElem?_eq_some_iff.mp h1).1
  refine GenW.wpAny_gsz hgi ?_
  refine wpAny_pyNext_genexpQ hh L.lim hd (isg _ L.at_) h1 h2 (fun v s₁ gs' hb hv => ?_) (fun s₁ hp h' hk => ?_)
  · intro hsz1
    have hsz1 : gi + 1 ≤ (s₁.setGen gi gs').gens.size := hsz1
    have hlt1 : gi < s₁.gens.size := by
      have e : (s₁.setGen gi gs').gens.size = s₁.gens.size := GenW.setGen_size _ _ _
      omega
    have hget1 : (s₁.setGen gi gs').gens[gi]? = some gs' := by
      show (s₁.gens.setIfInBounds gi gs')[gi]? = some gs'
      simp [hlt1]
    obtain ⟨x, d, σ', H', F', ρ', cons', ip, us, hist, e1, e2, I', rx, rp, hget, hlt, hvs, hrl, le, R', hw, alt⟩ := hv
    have ibare := bare_set (gi := gi) I'.bare hb
    have hne : n ≠ 0 := by
      rintro rfl
      rcases alt with ⟨m0, hst, er⟩ | ⟨_, kap⟩
      · rw [hn0 rfl] at hst; cases hst
      · obtain ⟨s2, cons2, q1, q2, q3, q4, q5⟩ := htk us cons' v s₁ e1 fun p hp => (I'.pin p (List.mem_append_right _ (List.mem_append_left _ hp))).1
        exact (kap s2 cons2 q1 (inv_taken (s2 := s2) I' hpn e2 (htc _ _ e1) hsz hcell (htc _ _ q1) q2 q3 q4 (by rw [q5]; exact I'.bare))).elim
    obtain ⟨n, rfl⟩ : ∃ m, n = m + 1 := ⟨n - 1, by omega⟩
    have I2 : Inv X (cons' ++ ip) σ' H' (s₁.setGen gi gs') := I'.call' (ch := []) rfl (Un.kept fun b o e => e) (I'.hok.kept fun b o e => e) ibare fun b z => by simp at z
    have eix : ys.length - (n + 1) = ys.length - 1 - (n + 1 - 1) := by omega
    refine ⟨x, d, H', F', σ', cons', ip, us, hist, ?_⟩
    refine { pos := hne, rx := rx, rp := rp, get := by rw [eix]; exact hget, held := e1, vals := hvs, rl := by rw [eix]; exact hrl, I := I2, ip := e2, rel := ⟨ρ', R'⟩, le := le, alt := ?_ }
    rcases alt with ⟨m0, hst, er⟩ | ⟨hst, kap⟩
    · refine .inl ⟨by omega, hst, fun s2 q1 q2 q3 => ?_⟩
      subst er
      have q1 : s2.heap = s₁.heap := q1
      exact ⟨cons' ++ ip, σ', H', F', σ', I'.call' (ch := []) q2 (Un.kept fun b o e => by rw [q1]; exact e) (by rw [q1]; exact I'.hok) q3 (fun b z => by simp at z), le, R', hw⟩
    · refine .inr ⟨fun h => hst (by omega), fun s2 cons2 q1 q2 q3 q4 q5 q6 => ?_⟩
      refine ⟨(q2 _ q3).1, ?_, gs', by rw [q6]; exact hget1, ?_⟩
      · have J := inv_taken (s2 := s2) I2 hpn e2 (htc _ _ e1) hsz hcell (htc _ _ q1) q2 q4 q5 (by rw [q6]; exact ibare)
        exact J.nolimit
      · refine kap (s2.setGen gi .running) cons2 q1 ?_
        exact inv_taken (s2 := s2.setGen gi .running) I2 hpn e2 (htc _ _ e1) hsz hcell (htc _ _ q1) q2 q4 q5 (bare_set (by rw [q6]; exact ibare) rfl)
  · intro hsz1
    obtain ⟨n0, hst, σ', σq, H', F', cons', ip, us, hist, e1, I', hvs, hrl, le, R', hw⟩ := hp
    refine ⟨n0, hst, cons', ip, us, hist, σ', σq, H', F', ⟨e1, ?_, hvs, hrl, le, R', hw⟩⟩
    exact I'.call' (ch := []) rfl (Un.kept hk) (I'.hok.kept hk) (bare_set I'.bare rfl) fun b z => by simp at z
end
end LH
end

section
set_option Elab.async false
set_option linter.all false
set_option maxRecDepth 100000
set_option maxHeartbeats 2000000
/-! any, all of a generator expression. -/
namespace LH
open PySem PySem.Spec L2
/-- where a walk stopped -/
def SO (gk : GK) (ys : List D) (st : Bool) : Prop := ∀ j d, ys[j]? = some d → stops gk d = some (st && decide (j + 1 = ys.length))
theorem so_app {gk : GK} {y1 y2 : List D} {st : Bool} (h1 : SO gk y1 false) (h2 : SO gk y2 st) (h3 : st = true → y2 ≠ []) : SO gk (y1 ++ y2) st := fun j d e => by
  by_cases lt : j < y1.length
  · rw [List.getElem?_append_left lt] at e
    have := h1 j d e
    rw [Bool.false_and] at this
    rw [this]
    cases st with
    | false => rfl
    | true =>
      have hne : 0 < y2.length := List.length_pos_iff.mpr (h3 rfl)
      rw [List.length_append, decide_eq_false (by omega)]; rfl
  · rw [List.getElem?_append_right (by omega)] at e
    rw [h2 _ d e, List.length_append]
    congr 2
    rw [decide_eq_decide]
    omega
theorem so_walk {gk : GK} {ts : List Nat} {g : MG} {mt : MT} {rest : MW} (h : ∀ ρ ys st ρ', rest ρ = some (ys, st, ρ') → SO gk ys st) (hn : ∀ ρ ρ', rest ρ ≠ some ([], true, ρ')) : ∀ (xs : List D) (ρ : Env) (ys : List D) (st : Bool) (ρ' : Env), walkS (turnS ts g mt rest) xs ρ = some (ys, st, ρ') → SO gk ys st
  | [], ρ, ys, st, ρ', e => by cases e; exact fun j d q => by simp at q
  | x :: xs, ρ, ys, st, ρ', e => by
    rcases walkS_cons e with ⟨e1, e2⟩ | ⟨y1, ρ1, y2, e1, e2, e3⟩
    · obtain ⟨ρ8, _, e5⟩ := turnS_some e1
      rcases e5 with ⟨_, _, z⟩ | ⟨ρ9, _, z⟩
      · cases z
      · rw [e2]; exact h _ _ _ _ z
    · subst e3
      have s2 := so_walk h hn xs _ _ _ _ e2
      have s1 : SO gk y1 false := by
        obtain ⟨ρ8, _, e5⟩ := turnS_some e1
        rcases e5 with ⟨_, z, _⟩ | ⟨ρ9, _, z⟩
        · subst z; exact fun j d q => by simp at q
        · exact h _ _ _ _ z
      refine so_app s1 s2 fun hs hy => ?_
      subst hs; subst hy
      exact nostopW hn _ _ _ e2
theorem so_clauses {gk : GK} {dE : ME} : ∀ (cls : List Cl) (ρ : Env) (ys : List D) (st : Bool) (ρ' : Env), clausesS (emitS gk dE) cls ρ = some (ys, st, ρ') → SO gk ys st
  | [], ρ, ys, st, ρ', e => by
    obtain ⟨_, _, d, _, _, q, q2⟩ := emitS_some (show emitS gk dE ρ = _ from e)
    subst q
    intro j d' q
    cases j with
    | zero =>
      have : d = d' := by simpa using q
      subst this
      rw [q2]; simp
    | succ j => simp at q
  | c :: cs, ρ, ys, st, ρ', e => by
    unfold clausesS at e
    split at e
    · cases e
    · exact so_walk (so_clauses cs) (nostopC cs) _ _ _ _ _ e
/-- the taker holds nothing but the generator -/
abbrev tie0 (a : Addr) (go : Obj) : List Value → List (Addr × Obj) → Prop := fun _ cons => cons = [(a, go)]
theorem takes0 {a : Addr} {go : Obj} (nc : ∀ v, go.data ≠ .cell v) : Takes1 (tie0 a go) [a] := fun us cons v s1 h at1 => by
  subst h
  exact ⟨s1, [(a, go)], rfl, fun p hp => ⟨at1 p hp, by rw [List.mem_singleton.mp hp]; exact nc⟩, fun b o _ e => e, rfl, rfl⟩
theorem ties0 {a : Addr} {go : Obj} : ∀ us cons, tie0 a go us cons → cons.map (·.1) = [a] := fun us cons h => by rw [show cons = [(a, go)] from h]; rfl
section
variable {X : Cx} {T : TL} {B : Option Addr} {P F0 : Hp} {ys : List D} {st : Bool} {ρe : Env} {own : List Nat} {σ0 : St} {A0 : Around} {a : Addr} {go : Obj} {gi : Nat} {R : Result → Shared → Prop}
theorem any_loop (hpn : X.pn = []) (hh : A0.handled = none) (hd : A0.depth < recursionLimit) (isg : ∀ h : Heap, h.get? a = some go → h.IsGen a gi) (nc : ∀ v, go.data ≠ .cell v) (hsz : ∀ b ∈ [a], X.s_0.heap.objs.size ≤ b) (hcell : ∀ b ∈ [a], ∀ x c, X.env.cells.lookup x = some c → c ≠ b)
    (so : SO .any ys st) (hR : ∀ s', Fin X T B P F0 ρe own σ0 s' → R (.ok (.ret (.bool st))) s') : ∀ (n : Nat) (s : Shared), n ≤ ys.length → (n = 0 → st = false) →
    Live A0.in1.in1 (model X.prog X.w) (gR X T B P F0 (tie0 a go) ys st ρe own σ0) (gY X T B P F0 (tie0 a go) [a] ys st ρe own σ0) a go gi n s → codeAny (model X.prog X.w) A0 (.builtin "any.loop" ⟨[.ref a], []⟩) R s := by
  intro n
  induction n with
  | zero =>
    intro s hn hn0 L
    refine codeAny_builtin F.entry_any_loop ?_
    rw [Around.under_plainId F.plain_any_loop _]
    show wpAny _ A0.in1 (pyNext (.ref a) >>= _) _ _ s
    refine wpAny_bind (wpAny_mono (pull (A0 := A0.in1) ties0 (takes0 nc) hpn hh hd isg hsz hcell hn hn0 L) (fun r s' h => ?_) fun _ _ e => e)
    cases r with
    | none =>
      obtain ⟨_, hst, _, _, _, _, _, _, _, _, fin⟩ := h
      refine wpAny_bind (wpAny_rule (wpAny_pure ?_))
      have := hR s' fin.fin
      rw [hst] at this
      exact this
    | some v =>
      obtain ⟨x, d, H, F, σ', cons, ip, us, hist, O⟩ := h
      exact absurd rfl O.pos
  | succ n ih =>
    intro s hn hn0 L
    refine codeAny_builtin F.entry_any_loop ?_
    rw [Around.under_plainId F.plain_any_loop _]
    show wpAny _ A0.in1 (pyNext (.ref a) >>= _) _ _ s
    refine wpAny_bind (wpAny_mono (pull (A0 := A0.in1) ties0 (takes0 nc) hpn hh hd isg hsz hcell hn hn0 L) (fun r s' h => ?_) fun _ _ e => e)
    cases r with
    | none => obtain ⟨z, _⟩ := h; cases z
    | some v =>
      obtain ⟨x, d, H, F, σ', cons, ip, us, hist, O⟩ := h
      obtain ⟨ρ', Rl⟩ := O.rel
      have hs := so _ d O.get
      have hb : stops .any d = truD d := rfl
      rw [hb] at hs
      refine wpAny_bind (wpAny_holding (wpAny_mono (tru_run rfl O.I O.rx (tru_pk Rl.fh (.inl O.rp) hs)) (fun b s2 hb2 => ?_) fun _ _ e => e))
      obtain ⟨rfl, tk, rfl⟩ := hb2
      refine wpAny_bind (wpAny_letGo ?_)
      have hcc : cons = [(a, go)] := O.held
      subst hcc
      have gat : s'.heap.get? a = some go := (O.I.pin (a, go) (List.mem_append_right _ (List.mem_append_left _ (List.mem_singleton.mpr rfl)))).1
      rcases O.alt with ⟨n1, hst, fin⟩ | ⟨hst, cont⟩
      · have hk : (st && decide (ys.length - (n + 1) + 1 = ys.length)) = true := by rw [hst, decide_eq_true (by omega)]; rfl
        rw [hk]
        simp only [if_true]
        refine wpAny_bind (wpAny_rule (wpAny_pure ?_))
        have := hR { s' with toks := tk } (fin _ rfl rfl O.I.bare)
        rw [hst] at this
        exact this
      · have hk : (st && decide (ys.length - (n + 1) + 1 = ys.length)) = false := by
          cases hs2 : st with
          | false => rfl
          | true =>
            have : n + 1 ≠ 1 := fun h => by rw [hst h] at hs2; cases hs2
            rw [decide_eq_false (by omega)]; rfl
        rw [hk]
        simp only [Bool.false_eq_true, if_false]
        refine wpAny_pure ⟨plainId_quiet PySem.F.plain_any_loop _, ih _ (by omega) (fun h => hst (by omega)) ?_⟩
        exact cont { s' with toks := tk } [(a, go)] rfl (fun p hp => by rw [List.mem_singleton.mp hp]; exact ⟨gat, nc⟩) (List.mem_singleton.mpr rfl) (fun b o _ e => e) rfl rfl
theorem all_loop (hpn : X.pn = []) (hh : A0.handled = none) (hd : A0.depth < recursionLimit) (isg : ∀ h : Heap, h.get? a = some go → h.IsGen a gi) (nc : ∀ v, go.data ≠ .cell v) (hsz : ∀ b ∈ [a], X.s_0.heap.objs.size ≤ b) (hcell : ∀ b ∈ [a], ∀ x c, X.env.cells.lookup x = some c → c ≠ b)
    (so : SO .all ys st) (hR : ∀ s', Fin X T B P F0 ρe own σ0 s' → R (.ok (.ret (.bool (!st)))) s') : ∀ (n : Nat) (s : Shared), n ≤ ys.length → (n = 0 → st = false) →
    Live A0.in1.in1 (model X.prog X.w) (gR X T B P F0 (tie0 a go) ys st ρe own σ0) (gY X T B P F0 (tie0 a go) [a] ys st ρe own σ0) a go gi n s → codeAny (model X.prog X.w) A0 (.builtin "all.loop" ⟨[.ref a], []⟩) R s := by
  intro n
  induction n with
  | zero =>
    intro s hn hn0 L
    refine codeAny_builtin F.entry_all_loop ?_
    rw [Around.under_plainId F.plain_all_loop _]
    show wpAny _ A0.in1 (pyNext (.ref a) >>= _) _ _ s
    refine wpAny_bind (wpAny_mono (pull (A0 := A0.in1) ties0 (takes0 nc) hpn hh hd isg hsz hcell hn hn0 L) (fun r s' h => ?_) fun _ _ e => e)
    cases r with
    | none =>
      obtain ⟨_, hst, _, _, _, _, _, _, _, _, fin⟩ := h
      refine wpAny_bind (wpAny_rule (wpAny_pure ?_))
      have := hR s' fin.fin
      rw [hst] at this
      exact this
    | some v =>
      obtain ⟨x, d, H, F, σ', cons, ip, us, hist, O⟩ := h
      exact absurd rfl O.pos
  | succ n ih =>
    intro s hn hn0 L
    refine codeAny_builtin F.entry_all_loop ?_
    rw [Around.under_plainId F.plain_all_loop _]
    show wpAny _ A0.in1 (pyNext (.ref a) >>= _) _ _ s
    refine wpAny_bind (wpAny_mono (pull (A0 := A0.in1) ties0 (takes0 nc) hpn hh hd isg hsz hcell hn hn0 L) (fun r s' h => ?_) fun _ _ e => e)
    cases r with
    | none => obtain ⟨z, _⟩ := h; cases z
    | some v =>
      obtain ⟨x, d, H, F, σ', cons, ip, us, hist, O⟩ := h
      obtain ⟨ρ', Rl⟩ := O.rel
      have hs0 : (truD d).map (!·) = some (st && decide (ys.length - (n + 1) + 1 = ys.length)) := so _ d O.get
      obtain ⟨kk, hs, hkk⟩ := Option.map_eq_some_iff.mp hs0
      refine wpAny_bind (wpAny_holding (wpAny_mono (tru_run rfl O.I O.rx (tru_pk Rl.fh (.inl O.rp) hs)) (fun b s2 hb2 => ?_) fun _ _ e => e))
      obtain ⟨rfl, tk, rfl⟩ := hb2
      refine wpAny_bind (wpAny_letGo ?_)
      have hcc : cons = [(a, go)] := O.held
      subst hcc
      have gat : s'.heap.get? a = some go := (O.I.pin (a, go) (List.mem_append_right _ (List.mem_append_left _ (List.mem_singleton.mpr rfl)))).1
      rcases O.alt with ⟨n1, hst, fin⟩ | ⟨hst, cont⟩
      · have hk : (st && decide (ys.length - (n + 1) + 1 = ys.length)) = true := by rw [hst, decide_eq_true (by omega)]; rfl
        have hb : b = false := by rw [hk] at hkk; simpa using hkk
        rw [hb]
        simp only [Bool.false_eq_true, if_false]
        refine wpAny_bind (wpAny_rule (wpAny_pure ?_))
        have := hR { s' with toks := tk } (fin _ rfl rfl O.I.bare)
        rw [hst] at this
        exact this
      · have hk : (st && decide (ys.length - (n + 1) + 1 = ys.length)) = false := by
          cases hs2 : st with
          | false => rfl
          | true =>
            have : n + 1 ≠ 1 := fun h => by rw [hst h] at hs2; cases hs2
            rw [decide_eq_false (by omega)]; rfl
        have hb : b = true := by rw [hk] at hkk; simpa using hkk
        rw [hb]
        simp only [if_true]
        refine wpAny_pure ⟨plainId_quiet PySem.F.plain_all_loop _, ih _ (by omega) (fun h => hst (by omega)) ?_⟩
        exact cont { s' with toks := tk } [(a, go)] rfl (fun p hp => by rw [List.mem_singleton.mp hp]; exact ⟨gat, nc⟩) (List.mem_singleton.mpr rfl) (fun b o _ e => e) rfl rfl
end
end LH
end

section
set_option Elab.async false
set_option linter.all false
set_option maxRecDepth 100000
set_option maxHeartbeats 2000000
/-! any(..), all(..) of a generator expression, read. -/
namespace LH
open PySem PySem.Spec L2
theorem dGen_some {k : GK} {own : List Nat} {elt : ME} {it : MI} {g : MG} {ifs : MT} {cs : List Cl} {ρ ρ' : Env} {ys : List D} {st : Bool} (h : dGen k own elt it g ifs cs ρ = some (ys, st, ρ')) :
    ∃ xs ρ1 ρ2, it ρ = some (xs, ρ1) ∧ walkS (turnS own g ifs (clausesS (emitS k elt) cs)) xs (wipeE ρ1 own) = some (ys, st, ρ2) ∧ ρ' = back ρ1 ρ2 own := by
  unfold dGen at h
  split at h
  · cases h
  · rename_i xs ρ1 e1
    split at h
    · cases h
    · rename_i zs st' ρ2 e2
      cases h
      exact ⟨xs, ρ1, ρ2, e1, e2, rfl⟩
section
variable {X : Cx} {T : TL} {B : Option Addr} {elt : Expr} {dE : ME} {gk : GK} {cs : List Comprehension} {scope : Scope} {gpos p pos : Pos} {tg iter : Expr} {ifs : List Expr} {own : List (Str × Nat)} {it : MI} {g : MG} {mt : MT} {cls : List Cl} {kg : Nat}
/-- what a generator expression of a def asks -/
structure GenOk (kg : Nat) (X : Cx) (T : TL) (B : Option Addr) (scope : Scope) (own : List (Str × Nat)) (tg iter : Expr) (ifs : List Expr) (cs : List Comprehension) (elt : Expr) (it : MI) (g : MG) (mt : MT) (cls : List Cl) (dE : ME) : Prop where
  calm : X.calm = true
  nd : X.N.Nodup
  room : Room (kg + 8) X.A
  tab : ∃ c Pt oc, KnownC X c Pt oc ∧ (Pt, oc) ∈ T ∧ X.env.code = .ref c
  it : PI X tg iter (rdI T B it)
  ok : BlkOk X.N X.env.scope scope own
  co : scope.isCoroutine = false
  dot : scope.names.lookup (".0" : Str) = some NameKind.local
  fold : ∀ x, foldedSetIterable iter X.env x = pure x
  nl : notLst iter = true
  parts : GenOf kg X T B scope own tg ifs cs elt g mt cls dE
abbrev gEnv (X : Cx) (scope : Scope) (s4 : Shared) (cg : Addr) : PySem.Env := genEnv scope (genCells X scope s4.heap.objs.size) s4.heap.objs.size (.ref cg) builtinsNs X.env
theorem gen_live (G : GenOk kg X T B scope own tg iter ifs cs elt it g mt cls dE) {pins : List (Addr × Obj)} {σ : St} {P F : Hp} {xs : List D} {ρ1 : Env} {a : Addr} {s6 s4 : Shared} {H4 F4 : Hp} {itA : Addr} {fp : List Addr} {tn : Nat → Heap → Prop} {J : It} {gi : Nat} {go : Obj} {cg Pg : Addr} {m : Str → Option Value}
    (Rd : GReady X T B pins σ P F tg (.GeneratorExp elt (⟨tg, iter, ifs, 0⟩ :: cs) scope gpos) scope xs ρ1 a s6 s4 H4 F4 itA fp tn J gi go cg Pg m) {A : Around} (hA : A.frames = some X.stack) (hr : Room (kg + 1) A)
    {tie : List Value → List (Addr × Obj) → Prop} {ca : List Addr} (htc : ∀ us cons, tie us cons → cons.map (·.1) = ca)
    {s7 : Shared} {cons : List (Addr × Obj)} (htie : tie [] cons) (kp : ∀ b o, s6.heap.get? b = some o → s7.heap.get? b = some o) (hos : s7.os = s6.os) (hgens : s7.gens = s6.gens)
    (hcons : ∀ p ∈ cons, s7.heap.get? p.1 = some p.2 ∧ s4.heap.objs.size < p.1 ∧ ∀ v, p.2.data ≠ .cell v)
    {ys : List D} {st : Bool} {ρe : Env} (ev : walkS (turnS (own.map (·.2)) g mt (clausesS (emitS gk dE) cls)) xs (wipeE ρ1 (own.map (·.2))) = some (ys, st, ρe)) :
    Live A (model X.prog X.w) (gR (genCx X A s4 H4 (gEnv X scope s4 cg) fp) ((Pg, some cg) :: T) B P F4 tie ys st ρe (own.map (·.2)) (wipe σ (own.map (·.2))))
      (gY (genCx X A s4 H4 (gEnv X scope s4 cg) fp) ((Pg, some cg) :: T) B P F4 tie ca ys st ρe (own.map (·.2)) (wipe σ (own.map (·.2)))) a go gi ys.length s7 := by
  refine ⟨kp _ _ Rd.at_, Rd.I.nolimit.keeps fun b o e => kp b o (Rd.kp b o e), .fresh _, by rw [hgens]; exact Rd.gen, And.intro rfl ?_⟩
  exact gen_goes G.calm G.nd G.ok G.co G.parts Rd hA hr.hd (hr.deeper _) htc (s₀ := s7.setGen gi .running) (s7 := s7.setGen gi .running) htie kp hos (bare_set (by rw [hgens]; exact Rd.bare) rfl) hcons ev
/-- behind it, in the def -/
theorem gen_fin (G : GenOk kg X T B scope own tg iter ifs cs elt it g mt cls dE) {pins : List (Addr × Obj)} {σ : St} {P F : Hp} {xs : List D} {ρ1 : Env} {a : Addr} {s6 s4 : Shared} {H4 F4 : Hp} {itA : Addr} {fp : List Addr} {tn : Nat → Heap → Prop} {J : It} {gi : Nat} {go : Obj} {cg Pg : Addr} {m : Str → Option Value}
    (Rd : GReady X T B pins σ P F tg (.GeneratorExp elt (⟨tg, iter, ifs, 0⟩ :: cs) scope gpos) scope xs ρ1 a s6 s4 H4 F4 itA fp tn J gi go cg Pg m) {A : Around} {ρe : Env} {s' : Shared} (f : Fin (genCx X A s4 H4 (gEnv X scope s4 cg) fp) ((Pg, some cg) :: T) B P F4 ρe (own.map (·.2)) (wipe σ (own.map (·.2))) s') :
    ∃ H' F', Inv X pins σ H' s' ∧ Le P F F' ∧ Rel T B P F' H' (back ρ1 ρe (own.map (·.2))) σ := by
  obtain ⟨pins', σ', H', F', σq, I', l', R', w'⟩ := f
  exact ⟨H', F', gen_back Rd.I (fun b hb => (Rd.fp b hb).1) I', Rd.le.trans l', (Rd.R.back R' l' w').tl⟩
theorem gen_cells (G : GenOk kg X T B scope own tg iter ifs cs elt it g mt cls dE) {pins : List (Addr × Obj)} {σ : St} {P F : Hp} {xs : List D} {ρ1 : Env} {a : Addr} {s6 s4 : Shared} {H4 F4 : Hp} {itA : Addr} {fp : List Addr} {tn : Nat → Heap → Prop} {J : It} {gi : Nat} {go : Obj} {cg Pg : Addr} {m : Str → Option Value}
    (Rd : GReady X T B pins σ P F tg (.GeneratorExp elt (⟨tg, iter, ifs, 0⟩ :: cs) scope gpos) scope xs ρ1 a s6 s4 H4 F4 itA fp tn J gi go cg Pg m) {b : Addr} (hb : b = a ∨ s6.heap.objs.size ≤ b) (x : Str) (c : Addr) (e : (gEnv X scope s4 cg).cells.lookup x = some c) : c ≠ b := by
  have hfree : ∀ y ∈ scope.names, y.2 = .free → ∃ c, X.env.cells.lookup y.1 = some c := fun y hy e => by
    rcases G.ok.free y hy e with k | k
    · exact Rd.I.ok.has _ (.inl k)
    · exact Rd.I.ok.has _ (.inr k)
  have e : (genCells X scope s4.heap.objs.size).lookup x = some c := e
  rcases Rd.cells _ _ (PySem.mem_of_lookup e) with hm | ⟨_, _, o, h1, h2⟩
  · have hlt : c < s4.heap.objs.size := by
      rcases cloFrom_mem hm with hm | ⟨h1, rfl⟩
      · cases hm
      · obtain ⟨c, hc⟩ := hfree _ h1 rfl
        rw [hc]
        obtain ⟨w, z⟩ := Rd.I.cell _ _ hc
        exact z.lt
    rcases hb with rfl | hb
    · exact Nat.ne_of_lt (Nat.lt_trans hlt Rd.up)
    · exact Nat.ne_of_lt (Nat.lt_of_lt_of_le (Nat.lt_trans (Nat.lt_trans hlt Rd.up) Rd.top) hb)
  · rcases hb with rfl | hb
    · rintro rfl
      rw [Rd.at_] at h1
      cases h1
      exact Rd.nc _ h2
    · exact Nat.ne_of_lt (Nat.lt_of_lt_of_le (Heap.lt_size h1) hb)
section
variable (G : GenOk kg X T B scope own tg iter ifs cs elt it g mt cls dE)
  (he : starEach [.GeneratorExp elt (⟨tg, iter, ifs, 0⟩ :: cs) scope gpos] X.env = (false, eval (.GeneratorExp elt (⟨tg, iter, ifs, 0⟩ :: cs) scope gpos) X.env) :: starEach [] X.env)
include G he
theorem pe_dAnyG (hg : Gl X "any") (hm : X.mg "any" = none) : PE X (.Call (.Name "any" p) [.GeneratorExp elt (⟨tg, iter, ifs, 0⟩ :: cs) scope gpos] [] pos) (rdE T B (dAnyG (dGen .any (own.map (·.2)) dE it g mt cls))) := by
  refine ⟨fun pins s σ H Q I h => ?_⟩
  obtain ⟨P, F, ρ, r, ρ', R, ev, k⟩ := h
  unfold dAnyG at ev
  split at ev
  · cases ev
  · rename_i ys st ρ2 e1
    cases ev
    obtain ⟨xs, ρ1, ρe, e2, e3, rfl⟩ := dGen_some e1
    obtain ⟨c, Pt, oc, TB, hT, hcode⟩ := G.tab
    refine wpAny_Call_Name_kw (ld_blt I hg hm PyProof.Rows.boot_any ?_)
    refine PyProof.Rows.callWith_builtin1 ?_ he (by rfl)
    rw [he]
    show wpAny _ _ (spliced ((false, eval (.GeneratorExp elt (⟨tg, iter, ifs, 0⟩ :: cs) scope gpos) X.env) :: backTo pos (starEach [] X.env))) _ _ s
    refine Calls.spliced_cons (gen_make (k := kg + 8) G.room TB hT hcode G.it G.ok G.co G.dot G.fold G.nl I R e2 fun a s6 s4 H4 F4 itA fp tn J gi go cg Pg m Rd => ?_)
    refine Calls.spliced_nil ?_
    refine call_function_tree PySem.F.kind_any PySem.F.plain_any PySem.F.entry_any (PySem.F.args_any1 _) ?_
    unfold Builtin.«any»
    refine wpAny_bind (m := oneArg "any" _) (wpAny_pure ?_)
    refine wpAny_bind (wpAny_pyIter_gen (Rd.isg _ Rd.at_) ?_)
    have hr2 : Room (kg + 6) X.A.in1.in1 := (G.room.mono (show kg + 8 ≤ kg + 8 from Nat.le_refl _)).in1.in1
    have L := gen_live G Rd (A := X.A.in1.in1) I.ok.frames (hr2.mono (by omega)) ties0 (s7 := s6) (cons := [(a, go)]) (show tie0 a go [] [(a, go)] from rfl) (fun b o e => e) rfl rfl (fun p hp => by rw [List.mem_singleton.mp hp]; exact ⟨Rd.at_, Rd.up, Rd.nc⟩) e3
    refine wpAny_pure ⟨plainId_quiet PySem.F.plain_any_loop _, any_loop (X := genCx X X.A.in1.in1 s4 H4 (gEnv X scope s4 cg) fp) (A0 := X.A) (ys := ys) (st := st) (ρe := ρe) (own := own.map (·.2)) (σ0 := wipe σ (own.map (·.2))) (P := P) (F0 := F4) rfl G.room.hd (by have := hr2.dp; show X.A.in1.depth < _; have := G.room.in1.dp; omega) Rd.isg Rd.nc
      (fun b hb => by rw [List.mem_singleton.mp hb]; exact Nat.le_of_lt Rd.up) (fun b hb => by rw [List.mem_singleton.mp hb]; exact gen_cells G Rd (.inl rfl)) (so_walk (so_clauses cls) (nostopC cls) _ _ _ _ _ e3) (fun s' f => ?_) ys.length s6 (Nat.le_refl _) (fun h0 => ?_) L⟩
    · obtain ⟨H', F', I', l', R'⟩ := gen_fin G Rd f
      exact ⟨.bl st, H', I', rfl, k _ H' F' l' R' (.bl st)⟩
    · have : ys = [] := List.length_eq_zero_iff.mp h0
      subst this
      cases st with
      | false => rfl
      | true => exact absurd e3 (nostopW (nostopC cls) _ _ _)
theorem pe_dAllG (hg : Gl X "all") (hm : X.mg "all" = none) : PE X (.Call (.Name "all" p) [.GeneratorExp elt (⟨tg, iter, ifs, 0⟩ :: cs) scope gpos] [] pos) (rdE T B (dAllG (dGen .all (own.map (·.2)) dE it g mt cls))) := by
  refine ⟨fun pins s σ H Q I h => ?_⟩
  obtain ⟨P, F, ρ, r, ρ', R, ev, k⟩ := h
  unfold dAllG at ev
  split at ev
  · cases ev
  · rename_i ys st ρ2 e1
    cases ev
    obtain ⟨xs, ρ1, ρe, e2, e3, rfl⟩ := dGen_some e1
    obtain ⟨c, Pt, oc, TB, hT, hcode⟩ := G.tab
    refine wpAny_Call_Name_kw (ld_blt I hg hm (show bootBuiltins "all" = some (.builtin "all") by decide +kernel) ?_)
    refine PyProof.Rows.callWith_builtin1 ?_ he (by rfl)
    rw [he]
    show wpAny _ _ (spliced ((false, eval (.GeneratorExp elt (⟨tg, iter, ifs, 0⟩ :: cs) scope gpos) X.env) :: backTo pos (starEach [] X.env))) _ _ s
    refine Calls.spliced_cons (gen_make (k := kg + 8) G.room TB hT hcode G.it G.ok G.co G.dot G.fold G.nl I R e2 fun a s6 s4 H4 F4 itA fp tn J gi go cg Pg m Rd => ?_)
    refine Calls.spliced_nil ?_
    refine call_function_tree PySem.F.kind_all PySem.F.plain_all PySem.F.entry_all (PySem.F.args_all1 _) ?_
    unfold Builtin.«all»
    refine wpAny_bind (m := oneArg "all" _) (wpAny_pure ?_)
    refine wpAny_bind (wpAny_pyIter_gen (Rd.isg _ Rd.at_) ?_)
    have hr2 : Room (kg + 6) X.A.in1.in1 := (G.room.mono (show kg + 8 ≤ kg + 8 from Nat.le_refl _)).in1.in1
    have L := gen_live G Rd (A := X.A.in1.in1) I.ok.frames (hr2.mono (by omega)) ties0 (s7 := s6) (cons := [(a, go)]) (show tie0 a go [] [(a, go)] from rfl) (fun b o e => e) rfl rfl (fun p hp => by rw [List.mem_singleton.mp hp]; exact ⟨Rd.at_, Rd.up, Rd.nc⟩) e3
    refine wpAny_pure ⟨plainId_quiet PySem.F.plain_all_loop _, all_loop (X := genCx X X.A.in1.in1 s4 H4 (gEnv X scope s4 cg) fp) (A0 := X.A) (ys := ys) (st := st) (ρe := ρe) (own := own.map (·.2)) (σ0 := wipe σ (own.map (·.2))) (P := P) (F0 := F4) rfl G.room.hd (by have := hr2.dp; show X.A.in1.depth < _; have := G.room.in1.dp; omega) Rd.isg Rd.nc
      (fun b hb => by rw [List.mem_singleton.mp hb]; exact Nat.le_of_lt Rd.up) (fun b hb => by rw [List.mem_singleton.mp hb]; exact gen_cells G Rd (.inl rfl)) (so_walk (so_clauses cls) (nostopC cls) _ _ _ _ _ e3) (fun s' f => ?_) ys.length s6 (Nat.le_refl _) (fun h0 => ?_) L⟩
    · obtain ⟨H', F', I', l', R'⟩ := gen_fin G Rd f
      exact ⟨.bl (!st), H', I', rfl, k _ H' F' l' R' (.bl (!st))⟩
    · have : ys = [] := List.length_eq_zero_iff.mp h0
      subst this
      cases st with
      | false => rfl
      | true => exact absurd e3 (nostopW (nostopC cls) _ _ _)
end
end
end LH
end

section
set_option Elab.async false
set_option linter.all false
set_option maxRecDepth 100000
set_option maxHeartbeats 2000000
/-! All that a generator expression hands out, in a list. -/
namespace LH
open PySem PySem.Spec L2
/-- the taker's list at S -/
abbrev tieS (a : Addr) (go : Obj) (S : Addr) : List Value → List (Addr × Obj) → Prop := fun us cons => ∃ c, cons = [(a, go), (S, L2.lstObj us.toArray c)]
theorem tiesS {a S : Addr} {go : Obj} : ∀ us cons, tieS a go S us cons → cons.map (·.1) = [a, S] := fun us cons ⟨c, h⟩ => by rw [h]; rfl
theorem push_at {h : Heap} {S : Addr} {us : List Value} {c : Nat} {v : Value} (e : h.get? S = some (L2.lstObj us.toArray c)) : ∃ c', (h.update S (Obj.mapSeq (·.push v))).get? S = some (L2.lstObj (us ++ [v]).toArray c') := by
  have := Heap.get?_update_self (Obj.mapSeq (·.push v)) e rfl
  have e2 : (us ++ [v]).toArray = us.toArray.push v := by simp
  rw [e2]
  exact ⟨_, this⟩
theorem takesS {a S : Addr} {go : Obj} (nc : ∀ v, go.data ≠ .cell v) (hne : a ≠ S) : Takes1 (tieS a go S) [a, S] := fun us cons v s1 h at1 => by
  obtain ⟨c, rfl⟩ := h
  have e1 := at1 (S, L2.lstObj us.toArray c) (by simp)
  obtain ⟨c', e2⟩ := push_at (v := v) e1
  refine ⟨{ s1 with heap := s1.heap.update S (Obj.mapSeq (·.push v)) }, [(a, go), (S, L2.lstObj (us ++ [v]).toArray c')], ⟨c', rfl⟩, fun p hp => ?_, fun b o hb e => ?_, rfl, rfl⟩
  · rcases List.mem_cons.mp hp with rfl | hp
    · exact ⟨(Heap.get?_update_other _ _ (Ne.symm hne)).trans (at1 (a, go) (by simp)), nc⟩
    · rw [List.mem_singleton.mp hp]
      exact ⟨e2, fun v q => by cases q⟩
  · have hbS : S ≠ b := by rintro rfl; exact hb (by simp)
    exact (Heap.get?_update_other _ _ hbS).trans e
section
variable {X : Cx} {T : TL} {B : Option Addr} {P F0 : Hp} {ys : List D} {ρe : Env} {own : List Nat} {σ0 : St} {A0 : Around} {a S : Addr} {go : Obj} {gi : Nat} {R : Result → Shared → Prop} {res : Value}
theorem ext_loop (hpn : X.pn = []) (hh : A0.handled = none) (hd : A0.depth < recursionLimit) (isg : ∀ h : Heap, h.get? a = some go → h.IsGen a gi) (nc : ∀ v, go.data ≠ .cell v) (hne : a ≠ S) (hsz : ∀ b ∈ [a, S], X.s_0.heap.objs.size ≤ b) (hcell : ∀ b ∈ [a, S], ∀ x c, X.env.cells.lookup x = some c → c ≠ b)
    (hlen : ys.length ≤ LIM) (hR : ∀ s' cons ip us hist σ' σq H F c, AllOut X T B P F0 (tieS a go S) ys ρe own σ0 s' cons ip us hist σ' σq H F → s'.heap.get? S = some (L2.lstObj us.toArray c) → R (.ok (.ret res)) s') : ∀ (n : Nat) (s : Shared), n ≤ ys.length →
    Live A0.in1.in1 (model X.prog X.w) (gR X T B P F0 (tieS a go S) ys false ρe own σ0) (gY X T B P F0 (tieS a go S) [a, S] ys false ρe own σ0) a go gi n s → codeAny (model X.prog X.w) A0 (.builtin "list.extend.loop" ⟨[.ref S, .ref a, res], []⟩) R s := by
  intro n
  induction n with
  | zero =>
    intro s hn L
    refine codeAny_builtin PySem.F.entry_extend_loop ?_
    rw [Around.under_plainId PySem.F.plain_extend_loop _]
    show wpAny _ A0.in1 (pyNext (.ref a) >>= _) _ _ s
    refine wpAny_bind (wpAny_mono (pull (A0 := A0.in1) tiesS (takesS nc hne) hpn hh hd isg hsz hcell hn (fun _ => rfl) L) (fun r s' h => ?_) fun _ _ e => e)
    cases r with
    | none =>
      obtain ⟨_, _, cons, ip, us, hist, σ', σq, H, F, fin⟩ := h
      obtain ⟨c, hc⟩ := fin.held
      have e := (fin.I.pin (S, L2.lstObj us.toArray c) (List.mem_append_right _ (List.mem_append_left _ (by rw [hc]; simp)))).1
      exact wpAny_pure (hR s' cons ip us hist σ' σq H F c fin e)
    | some v =>
      obtain ⟨x, d, H, F, σ', cons, ip, us, hist, O⟩ := h
      exact absurd rfl O.pos
  | succ n ih =>
    intro s hn L
    refine codeAny_builtin PySem.F.entry_extend_loop ?_
    rw [Around.under_plainId PySem.F.plain_extend_loop _]
    show wpAny _ A0.in1 (pyNext (.ref a) >>= _) _ _ s
    refine wpAny_bind (wpAny_mono (pull (A0 := A0.in1) tiesS (takesS nc hne) hpn hh hd isg hsz hcell hn (fun _ => rfl) L) (fun r s' h => ?_) fun _ _ e => e)
    cases r with
    | none => obtain ⟨z, _⟩ := h; cases z
    | some v =>
      obtain ⟨x, d, H, F, σ', cons, ip, us, hist, O⟩ := h
      obtain ⟨c, hc⟩ := O.held
      have eS := (O.I.pin (S, L2.lstObj us.toArray c) (List.mem_append_right _ (List.mem_append_left _ (by rw [hc]; simp)))).1
      have ea := (O.I.pin (a, go) (List.mem_append_right _ (List.mem_append_left _ (by rw [hc]; simp)))).1
      obtain ⟨c', e2⟩ := push_at (v := v) eS
      have hul : us.length < sizeLine := by
        have h1 := O.vals.length
        have h2 := O.rl.length
        rw [List.length_take] at h2
        rw [lim] at hlen
        omega
      rcases O.alt with ⟨_, hst, _⟩ | ⟨_, cont⟩
      · cases hst
      · show wpAny _ A0.in1 (updateSeq S (·.push v) >>= _) _ _ _
        refine wpAny_bind ?_
        refine wpAny_updateSeq eS rfl (wpAny_pure ⟨plainId_quiet PySem.F.plain_extend_loop _, ih _ (by omega) ?_⟩) (by show us.toArray.size ≤ _; rw [List.size_toArray]; omega) (by show (us.toArray.push v).size ≤ sizeLine + 1; rw [Array.size_push, List.size_toArray]; omega)
        refine cont { s' with heap := s'.heap.update S (Obj.mapSeq (·.push v)) } [(a, go), (S, L2.lstObj (us ++ [v]).toArray c')] ⟨c', rfl⟩ (fun p hp => ?_) (by simp) (fun b o hb e => ?_) rfl rfl
        · rcases List.mem_cons.mp hp with rfl | hp
          · exact ⟨(Heap.get?_update_other _ _ (Ne.symm hne)).trans ea, nc⟩
          · rw [List.mem_singleton.mp hp]
            exact ⟨e2, fun v q => by cases q⟩
        · have hbS : S ≠ b := by rintro rfl; exact hb (by simp)
          exact (Heap.get?_update_other _ _ hbS).trans e
end
section
variable {X : Cx} {T : TL} {B : Option Addr} {elt : Expr} {dE : ME} {cs : List Comprehension} {scope : Scope} {gpos p pos : Pos} {tg iter : Expr} {ifs : List Expr} {own : List (Str × Nat)} {it : MI} {g : MG} {mt : MT} {cls : List Cl} {kg : Nat}
theorem stopsN {ys : List D} {st : Bool} (so : SO .col ys st) (hne : st = true → ys ≠ []) : st = false := by
  cases st with
  | false => rfl
  | true =>
    exfalso
    have hl := List.length_pos_iff.mpr (hne rfl)
    have h1 : ys[ys.length - 1]? = some ys[ys.length - 1] := List.getElem?_eq_getElem (by omega)
    have := so _ _ h1
    have e : stops .col ys[ys.length - 1] = some false := rfl
    rw [e, decide_eq_true (by omega)] at this
    cases this
/-- behind it: what came, as values -/
structure Got (X : Cx) (T : TL) (B : Option Addr) (pins : List (Addr × Obj)) (σ : St) (P F : Hp) (ρ' : Env) (ys : List D) (us : List Value) (s' : Shared) (H' F' : Hp) (hist : List V) : Prop where
  I : Inv X pins σ H' s'
  le : Le P F F'
  R : Rel T B P F' H' ρ' σ
  vals : Vals hist us
  rl : RpL F' hist ys
theorem collect_gen (G : GenOk kg X T B scope own tg iter ifs cs elt it g mt cls dE) {pins : List (Addr × Obj)} {σ : St} {P F : Hp} {xs : List D} {ρ1 : Env} {a : Addr} {s6 s4 : Shared} {H4 F4 : Hp} {itA : Addr} {fp : List Addr} {tn : Nat → Heap → Prop} {J : It} {gi : Nat} {go : Obj} {cg Pg : Addr} {m : Str → Option Value}
    (Rd : GReady X T B pins σ P F tg (.GeneratorExp elt (⟨tg, iter, ifs, 0⟩ :: cs) scope gpos) scope xs ρ1 a s6 s4 H4 F4 itA fp tn J gi go cg Pg m) {A : Around} (hA : A.frames = some X.stack) (hr : Room (kg + 3) A)
    {ys : List D} {st : Bool} {ρe : Env} (ev : walkS (turnS (own.map (·.2)) g mt (clausesS (emitS .col dE) cls)) xs (wipeE ρ1 (own.map (·.2))) = some (ys, st, ρe)) (hlen : ys.length ≤ LIM)
    {Q : List Value → Shared → Prop} {E : Value → Shared → Prop} (hQ : ∀ us s' H' F' hist, Got X T B pins σ P F (back ρ1 ρe (own.map (·.2))) ys us s' H' F' hist → Q us s') : wpAny (model X.prog X.w) A (collect (.ref a)) Q E s6 := by
  have hst : st = false := stopsN (so_walk (so_clauses cls) (nostopC cls) _ _ _ _ _ ev) fun h hy => by
    subst h; subst hy; exact absurd ev (nostopW (nostopC cls) _ _ _)
  subst hst
  have hSI : s6.heap.objs.size ≠ a := Nat.ne_of_gt Rd.top
  unfold collect
  refine wpAny_bind (wpAny_runValue (codeAny_builtin PySem.F.entry_proto_collect ?_))
  rw [Around.under_plainId PySem.F.plain_proto_collect _]
  show wpAny _ A.in1 (newList [] >>= fun l => again (.builtin "list.__iadd__" ⟨[l, .ref a], []⟩)) _ _ s6
  refine wpAny_bind (wpAny_newObj_type ?_)
  refine wpAny_pure ⟨plainId_quiet PySem.F.plain_list_iadd _, codeAny_builtin PySem.F.entry_list_iadd ?_⟩
  rw [Around.under_plainId PySem.F.plain_list_iadd _]
  have k1 : ∀ b o, s6.heap.get? b = some o → (s6.heap.push { cls := .type "list", data := .seq ([] : List Value).toArray }).get? b = some o := fun b o e => Heap.get?_push_of_some _ e
  have gty : ∀ {h : Heap}, (∀ b o, s6.heap.get? b = some o → h.get? b = some o) → h.IsGen a gi := fun {h} q => Rd.isg h (q _ _ Rd.at_)
  show wpAny _ A.in1 (Builtin.List.listExtendWith (.ref s6.heap.objs.size) (.ref a) (.ref s6.heap.objs.size)) _ _ _
  unfold Builtin.List.listExtendWith
  refine wpAny_bind (wpAny_typeOf (Heap.IsGen.typeIs (s := { s6 with heap := _ }) (gty k1)) ?_)
  have h1 : Builtin.List.listSameRef (.ref s6.heap.objs.size) (.ref a) = false := by simp [Builtin.List.listSameRef, hSI]
  have h2 : (Value.type "generator" == Value.type "list") = false := by decide
  have h3 : (Value.type "generator" == Value.type "tuple") = false := by decide
  simp only [h1, h2, h3, Bool.or_false, Bool.false_eq_true, if_false]
  refine wpAny_bind (wpAny_pyIter_gen (s := { s6 with heap := _ }) (gty k1) ?_)
  refine wpAny_bind (wpAny_holding ?_)
  unfold Builtin.List.listLengthHint
  refine wpAny_bind (wpAny_specialOf (Heap.IsGen.typeIs (s := { s6 with heap := _ }) (gty k1)) PySem.F.gen_no_len ?_)
  show wpAny _ A.in1 (specialOf (Value.ref a) (Str.ofString "__length_hint__") >>= _) _ _ _
  refine wpAny_bind (wpAny_specialOf (Heap.IsGen.typeIs (s := { s6 with heap := _ }) (gty k1)) PySem.F.gen_no_hint ?_)
  refine wpAny_pure ?_
  show wpAny _ A.in1 (rule "list.extend.makes-room" >>= fun _ => Builtin.List.listTouch (.ref s6.heap.objs.size) >>= fun _ =>
    again (.builtin "list.extend.loop" ⟨[.ref s6.heap.objs.size, .ref a, .ref s6.heap.objs.size], []⟩)) _ _ _
  refine wpAny_bind (wpAny_rule ?_)
  have hS₁ : (s6.heap.push { cls := .type "list", data := .seq ([] : List Value).toArray }).get? s6.heap.objs.size = some { cls := .type "list", data := .seq ([] : List Value).toArray } := Heap.get?_push_size _ rfl
  refine wpAny_bind ?_
  show wpAny _ A.in1 (updateSeq s6.heap.objs.size (·.push .none) >>= fun _ => updateSeq s6.heap.objs.size (·.pop)) _ _ _
  refine wpAny_bind (wpAny_updateSeq hS₁ rfl ?_)
  have hS₂ := Heap.get?_update_self (Obj.mapSeq (·.push Value.none)) hS₁ rfl
  refine wpAny_updateSeq hS₂ rfl ?_
  have hS₃ := Heap.get?_update_self (Obj.mapSeq (·.pop)) hS₂ rfl
  have oth : ∀ b o, s6.heap.get? b = some o →
      (((s6.heap.push { cls := .type "list", data := .seq ([] : List Value).toArray }).update s6.heap.objs.size (Obj.mapSeq (·.push Value.none))).update s6.heap.objs.size (Obj.mapSeq (·.pop))).get? b = some o :=
    fun b o e => by
      have hb : s6.heap.objs.size ≠ b := Nat.ne_of_gt (Heap.lt_size e)
      exact (Heap.get?_update_other _ _ hb).trans ((Heap.get?_update_other _ _ hb).trans (k1 b o e))
  refine wpAny_pure ⟨plainId_quiet PySem.F.plain_extend_loop _, ?_⟩
  have hup : s4.heap.objs.size < s6.heap.objs.size := Nat.lt_trans Rd.up Rd.top
  have hr2 : Room (kg + 1) A.in1.in1 := hr.in1.in1
  have L := gen_live G Rd (A := A.in1.in1) hA hr2 (gk := .col) (tie := tieS a go s6.heap.objs.size) (ca := [a, s6.heap.objs.size]) tiesS (s7 := { s6 with heap := ((s6.heap.push { cls := .type "list", data := .seq ([] : List Value).toArray }).update s6.heap.objs.size (Obj.mapSeq (·.push Value.none))).update s6.heap.objs.size (Obj.mapSeq (·.pop)) })
    (cons := [(a, go), (s6.heap.objs.size, _)]) ⟨_, rfl⟩ oth rfl rfl (fun p hp => by
      rcases List.mem_cons.mp hp with rfl | hp
      · exact ⟨oth _ _ Rd.at_, Rd.up, Rd.nc⟩
      · rw [List.mem_singleton.mp hp]
        exact ⟨hS₃, hup, fun v q => by cases q⟩) ev
  refine ext_loop (X := genCx X A.in1.in1 s4 H4 (gEnv X scope s4 cg) fp) (A0 := A) (P := P) (F0 := F4) (ρe := ρe) (own := own.map (·.2)) (σ0 := wipe σ (own.map (·.2))) rfl hr.hd (by have := hr.dp; omega) Rd.isg Rd.nc (Ne.symm hSI)
    (fun b hb => by
      rcases List.mem_cons.mp hb with rfl | hb
      · exact Nat.le_of_lt Rd.up
      · rw [List.mem_singleton.mp hb]; exact Nat.le_of_lt hup)
    (fun b hb => by
      rcases List.mem_cons.mp hb with rfl | hb
      · exact gen_cells G Rd (.inl rfl)
      · rw [List.mem_singleton.mp hb]; exact gen_cells G Rd (.inr (Nat.le_refl _))) hlen (fun s' cons ip us hist σ' σq H F' c fin eS => ?_) ys.length _ (Nat.le_refl _) L
  show wpAny _ A (load s6.heap.objs.size >>= _) _ _ s'
  refine wpAny_bind (wpAny_load eS ?_)
  refine wpAny_pure ?_
  have hl : (us.toArray).toList = us := by simp
  show Q us.toArray.toList s'
  rw [hl]
  exact hQ us s' H F' hist ⟨gen_back Rd.I (fun b hb => (Rd.fp b hb).1) fin.I, Rd.le.trans fin.le, (Rd.R.back fin.R fin.le fin.w).tl, fin.vals, fin.rl⟩
end
end LH
end

section
set_option Elab.async false
set_option linter.all false
set_option maxRecDepth 100000
set_option maxHeartbeats 2000000
/-! tuple(..) of a generator expression, of a list. -/
namespace LH
open PySem PySem.Spec L2
section
variable {prog : Program} {w : World} {A : Around} {E : Value → Shared → Prop} {s : Shared}
/-- tuple(g), g's items told by how they are collected -/
theorem tuple_col {Q : Value → Shared → Prop} {a : Addr} {Z : List Value → Shared → Prop} (ty : s.TypeIs (.ref a) "generator") (col : ∀ {Q : List Value → Shared → Prop} {E : Value → Shared → Prop}, (∀ us s', Z us s' → Q us s') → wpAny (model prog w) A.in1.in1 (collect (.ref a)) Q E s)
    (hQ : ∀ us s', Z us s' → us.length ≤ sizeLine ∧ Q (.ref s'.heap.objs.size) { s' with heap := s'.heap.push { cls := .type "tuple", data := .seq us.toArray } }) :
    wpAny (model prog w) A (call (.type "tuple") [.ref a]) Q E s := by
  refine callType_codes (Q₁ := fun obj s₁ => s₁.TypeIs obj "tuple" ∧ Q obj s₁) F.called_tuple (F.typeCall_tuple_1 _) F.entry_object_init ?_ fun obj s₁ h₁ => ?_
  · refine codeAny_of_tree ?_
    show wpAny _ A.in1.in1 (do checkBuiltinCall "tuple.__new__" ⟨[.type "tuple", .ref a], []⟩; again (.builtin "tuple.__new__" ⟨[.type "tuple", .ref a], []⟩)) _ _ s
    refine wpAny_bind (wpAny_of_eq (F.newCall_tuple_1 _) (wpAny_pure ⟨plainId_quiet F.plain_tuple_new _, codeAny_builtin F.entry_tuple_new ?_⟩))
    rw [Around.under_plainId F.plain_tuple_new _]
    have hsub := sub_tuple_self
    have hinit := init_tuple_lookup
    have hmh := madeHere_tuple
    wp_walk using wpAny_typeOf ty, col
    intro us s' hz
    obtain ⟨h1, h2⟩ := hQ us s' hz
    show wpAny _ _ (Builtin.Tuple.tupleExact us.toArray >>= fun v => ret v) _ _ _
    unfold Builtin.Tuple.tupleExact
    refine wpAny_bind (wpAny_newObj_type ?_ (by show us.toArray.size ≤ sizeLine; rw [List.size_toArray]; exact h1))
    exact wpAny_pure ⟨⟨_, Heap.get?_push_size _ rfl, rfl⟩, h2⟩
  · exact ⟨h₁.1, F.args_object_init_2 obj _, object_init_meets F.called_tuple.init.lookup F.called_tuple.made (by decide) prog w A.in1 _ s₁ ⟨h₁.1, rfl, h₁.2⟩⟩
end
section
variable {X : Cx} {T : TL} {B : Option Addr} {elt : Expr} {dE : ME} {cs : List Comprehension} {scope : Scope} {gpos p pos : Pos} {tg iter : Expr} {ifs : List Expr} {own : List (Str × Nat)} {it : MI} {g : MG} {mt : MT} {cls : List Cl} {kg : Nat}
theorem eatG_some {f : List D → Option R} {gen : MW} {ρ ρ' : Env} {r : R} (h : dEatG f gen ρ = some (r, ρ')) : ∃ ys st, gen ρ = some (ys, st, ρ') ∧ ys.length ≤ LIM ∧ f ys = some r := by
  unfold dEatG at h
  split at h
  · cases h
  · rename_i ys st ρ1 e1
    split at h
    · rename_i hz
      split at h
      · cases h
      · rename_i r' e2
        cases h
        exact ⟨ys, st, e1, hz, e2⟩
    · cases h
/-- a new tuple in the def -/
theorem Got.tup {pins : List (Addr × Obj)} {σ : St} {P F : Hp} {ρ' : Env} {ys : List D} {us : List Value} {s' : Shared} {H' F' : Hp} {hist : List V} (Z : Got X T B pins σ P F ρ' ys us s' H' F' hist) (hlen : ys.length ≤ LIM) {Q : VK}
    (k : ∀ v H' F', Le P F F' → Rel T B P F' H' ρ' σ → RepR P F' H' ρ' σ (.val (.tuple ys)) v → Q v H') : us.length ≤ sizeLine ∧ EP X pins σ Q (.ref s'.heap.objs.size) { s' with heap := s'.heap.push { cls := .type "tuple", data := .seq us.toArray } } := by
  have hul : us.length ≤ sizeLine := by
    have h1 := Z.vals.length
    have h2 := Z.rl.length
    rw [lim] at hlen
    omega
  have hnone : H' s'.heap.objs.size = none := Z.I.hok.fresh (Nat.le_refl _)
  obtain ⟨l3, R3, q3⟩ := Z.R.newTup hnone Z.rl
  refine ⟨hul, .ref s'.heap.objs.size, _, ?_, rfl, k _ _ _ (Z.le.trans l3) R3 q3⟩
  exact Z.I.laid (t' := s'.toks) (fun b o e => Heap.get?_push_of_some _ e) (Nat.le_refl _) ⟨by have h1 := Z.vals.length; show hist.length ≤ sizeLine; omega, us, Z.vals, ⟨_, Heap.get?_push_size _ rfl, rfl, _, rfl⟩⟩
theorem pe_dTupleG (G : GenOk kg X T B scope own tg iter ifs cs elt it g mt cls dE) (he : starEach [.GeneratorExp elt (⟨tg, iter, ifs, 0⟩ :: cs) scope gpos] X.env = (false, eval (.GeneratorExp elt (⟨tg, iter, ifs, 0⟩ :: cs) scope gpos) X.env) :: starEach [] X.env)
    (hg : Gl X "tuple") (hm : X.mg "tuple" = none) : PE X (.Call (.Name "tuple" p) [.GeneratorExp elt (⟨tg, iter, ifs, 0⟩ :: cs) scope gpos] [] pos) (rdE T B (dEatG (fEat .tuple) (dGen .col (own.map (·.2)) dE it g mt cls))) := by
  refine ⟨fun pins s σ H Q I h => ?_⟩
  obtain ⟨P, F, ρ, r, ρ', R, ev, k⟩ := h
  obtain ⟨ys, st, e1, hz, e4⟩ := eatG_some ev
  cases e4
  obtain ⟨xs, ρ1, ρe, e2, e3, rfl⟩ := dGen_some e1
  obtain ⟨c, Pt, oc, TB, hT, hcode⟩ := G.tab
  refine wpAny_Call_Name_kw (ld_blt I hg hm (show bootBuiltins "tuple" = some (.type "tuple") by decide +kernel) ?_)
  refine PyProof.Rows.callWith_type1 ?_ he rfl
  rw [he]
  show wpAny _ _ (spliced ((false, eval (.GeneratorExp elt (⟨tg, iter, ifs, 0⟩ :: cs) scope gpos) X.env) :: backTo pos (starEach [] X.env))) _ _ s
  refine Calls.spliced_cons (gen_make (k := kg + 8) G.room TB hT hcode G.it G.ok G.co G.dot G.fold G.nl I R e2 fun a s6 s4 H4 F4 itA fp tn J gi go cg Pg m Rd => ?_)
  refine Calls.spliced_nil ?_
  refine tuple_col (A := X.A) (Z := fun us s' => ∃ H' F' hist, Got X T B pins σ P F (back ρ1 ρe (own.map (·.2))) ys us s' H' F' hist) (Heap.IsGen.typeIs (Rd.isg _ Rd.at_)) (fun hQ => ?_) fun us s' ⟨H', F', hist, Z⟩ => Z.tup hz k
  exact collect_gen G Rd (A := X.A.in1.in1) I.ok.frames ((G.room.in1.in1).mono (by omega)) e3 hz fun us s' H' F' hist Z => hQ us s' ⟨H', F', hist, Z⟩
end
end LH
end

section
set_option Elab.async false
set_option linter.all false
set_option maxRecDepth 100000
set_option maxHeartbeats 1000000
/-! tuple(..), list(..), sorted(..) of a list or a tuple. -/
namespace LH
open PySem PySem.Spec L2
theorem dEat_some {f : List D → Option R} {it : MI} {ρ ρ' : Env} {r : R} (h : dEat f it ρ = some (r, ρ')) : ∃ xs, it ρ = some (xs, ρ') ∧ f xs = some r := by
  unfold dEat at h
  split at h
  · cases h
  · rename_i xs ρ1 e1
    split at h
    · cases h
    · rename_i r' e2
      cases h
      exact ⟨xs, e1, e2⟩
theorem mSeq_some {a : ME} {ρ ρ' : Env} {xs : List D} (h : mSeq a ρ = some (xs, ρ')) : ∃ r ρ1 d, a ρ = some (r, ρ1) ∧ share r ρ1 = some (d, ρ') ∧ itemsOf d = some xs := by
  unfold mSeq at h
  split at h
  · cases h
  · rename_i r ρ1 e1
    split at h
    · cases h
    · rename_i d ρ2 e2
      split at h
      · cases h
      · rename_i ys e3
        cases h
        exact ⟨r, ρ1, d, e1, e2, e3⟩
theorem mLst_some {a : ME} {ρ ρ' : Env} {xs : List D} (h : mLst a ρ = some (xs, ρ')) : ∃ r ρ1, a ρ = some (r, ρ1) ∧ share r ρ1 = some (.list xs, ρ') := by
  unfold mLst at h
  split at h
  · cases h
  · rename_i r ρ1 e1
    split at h
    · rename_i ys ρ2 e2
      cases h
      exact ⟨r, ρ1, e1, e2⟩
    · cases h
/-! ### the sorted list is one -/
section
variable {α : Type}
theorem insL_perm (lt : D → D → Bool) (x : D) : ∀ l : List D, (sortD.insL lt x l).Perm (x :: l)
  | [] => List.Perm.refl _
  | y :: l => by
    unfold sortD.insL
    split
    · exact ((insL_perm lt x l).cons y).trans (List.Perm.swap x y l)
    · exact List.Perm.refl _
theorem sortD_perm (lt : D → D → Bool) : ∀ l : List D, (sortD lt l).Perm l
  | [] => List.Perm.refl _
  | x :: l => (insL_perm lt x _).trans ((sortD_perm lt l).cons x)
theorem insL_srtd {lt : D → D → Bool} (O : SrtO.Swo lt) (x : D) : ∀ l : List D, SrtO.Srtd lt l → SrtO.Srtd lt (sortD.insL lt x l)
  | [], _ => SrtO.srtd_one x
  | y :: l, h => by
    have hp := List.pairwise_cons.mp h
    unfold sortD.insL
    split
    · rename_i hy
      refine List.pairwise_cons.mpr ⟨fun z hz => ?_, insL_srtd O x l hp.2⟩
      rcases List.mem_cons.mp ((insL_perm lt x l).mem_iff.mp hz) with rfl | hz
      · exact O.asym y z hy
      · exact hp.1 z hz
    · rename_i hy
      have hy : lt y x = false := by simpa using hy
      refine List.pairwise_cons.mpr ⟨fun z hz => ?_, h⟩
      rcases List.mem_cons.mp hz with rfl | hz
      · exact hy
      · exact O.tr x y z hy (hp.1 z hz)
theorem sortD_srtd {lt : D → D → Bool} (O : SrtO.Swo lt) : ∀ l : List D, SrtO.Srtd lt (sortD lt l)
  | [] => List.Pairwise.nil
  | x :: l => insL_srtd O x _ (sortD_srtd O l)
theorem insL_congr {lt lt' : D → D → Bool} {x : D} : ∀ {l : List D}, (∀ y ∈ l, lt y x = lt' y x) → sortD.insL lt x l = sortD.insL lt' x l
  | [], _ => rfl
  | y :: l, h => by
    unfold sortD.insL
    rw [h y List.mem_cons_self, insL_congr fun z hz => h z (List.mem_cons_of_mem _ hz)]
theorem sortD_congr {lt lt' : D → D → Bool} : ∀ {l : List D}, (∀ x ∈ l, ∀ y ∈ l, lt x y = lt' x y) → sortD lt l = sortD lt' l
  | [], _ => rfl
  | x :: l, h => by
    show sortD.insL lt x (sortD lt l) = sortD.insL lt' x (sortD lt' l)
    rw [sortD_congr (l := l) fun a ha b hb => h a (List.mem_cons_of_mem _ ha) b (List.mem_cons_of_mem _ hb)]
    exact insL_congr fun y hy => h y (List.mem_cons_of_mem _ ((sortD_perm lt' l).mem_iff.mp hy)) x List.mem_cons_self
def kD : D → Int × Int
  | .int i => (i, 0)
  | .tuple [.int i, .int j] => (i, j)
  | _ => (0, 0)
def ltK (x y : D) : Bool := SrtO.lexB (kD x) (kD y)
theorem ltK_swo : SrtO.Swo ltK := by
  refine ⟨fun x y h => ?_, fun x y z h1 h2 => ?_⟩
  · have a := SrtO.lexB_iff.mp h
    refine SrtO.lexB_no.mpr ?_
    omega
  · have a := SrtO.lexB_no.mp h1
    have b := SrtO.lexB_no.mp h2
    refine SrtO.lexB_no.mpr ?_
    omega
theorem isInt_of {d : D} (h : isIntD d = true) : ∃ i, d = .int i := by
  cases d <;> first | exact ⟨_, rfl⟩ | cases h
theorem isPair_of {d : D} (h : isPairD d = true) : ∃ i j, d = .tuple [.int i, .int j] := by
  unfold isPairD at h
  split at h
  · exact ⟨_, _, rfl⟩
  · cases h
theorem ltv_int (i j : Int) : ltv (.int i) (.int j) = decide (i < j) := rfl
theorem eqv_int (i j : Int) : PyData.eqv (.int i) (.int j) = decide (i = j) := by
  first
    | rfl
    | (unfold PyData.eqv; simp)
theorem ltv_pair (i j k l : Int) : ltv (.tuple [.int i, .int j]) (.tuple [.int k, .int l]) = SrtO.lexB (i, j) (k, l) := by
  show (if PyData.eqv (.int i) (.int k) then (if PyData.eqv (.int j) (.int l) then false else decide (j < l)) else decide (i < k)) = _
  rw [eqv_int, eqv_int]
  unfold SrtO.lexB
  by_cases h1 : i = k
  · by_cases h2 : j = l
    · simp [h1, h2]
    · simp [h1, h2]
  · simp [h1]
theorem sorted_one {xs ys : List D} (h : sortable xs = true) (p : ys.Perm xs) (s : SrtO.Srtd ltK ys) : sortD ltv xs = ys := by
  have both : ∀ x ∈ xs, ∀ y ∈ xs, ltv x y = ltK x y ∧ (ltK x y = false → ltK y x = false → x = y) := fun x hx y hy => by
    unfold sortable at h
    rcases Bool.or_eq_true_iff.mp h with h | h
    · obtain ⟨i, rfl⟩ := isInt_of (List.all_eq_true.mp h x hx)
      obtain ⟨j, rfl⟩ := isInt_of (List.all_eq_true.mp h y hy)
      refine ⟨?_, fun a b => ?_⟩
      · show decide (i < j) = SrtO.lexB (i, 0) (j, 0)
        unfold SrtO.lexB
        by_cases e : i = j <;> simp [e]
      · have a := SrtO.lexB_no.mp (show SrtO.lexB (i, 0) (j, 0) = false from a)
        have b := SrtO.lexB_no.mp (show SrtO.lexB (j, 0) (i, 0) = false from b)
        have : i = j := by simp only at a b; omega
        rw [this]
    · obtain ⟨i, j, rfl⟩ := isPair_of (List.all_eq_true.mp h x hx)
      obtain ⟨k, l, rfl⟩ := isPair_of (List.all_eq_true.mp h y hy)
      refine ⟨ltv_pair i j k l, fun a b => ?_⟩
      have a := SrtO.lexB_no.mp (show SrtO.lexB (i, j) (k, l) = false from a)
      have b := SrtO.lexB_no.mp (show SrtO.lexB (k, l) (i, j) = false from b)
      simp only at a b
      have e1 : i = k := by omega
      have e2 : j = l := by omega
      rw [e1, e2]
  rw [sortD_congr fun x hx y hy => (both x hx y hy).1]
  have p2 := sortD_perm ltK xs
  refine List.Perm.eq_of_pairwise (le := fun a b => ltK b a = false) (fun a b ha hb h1 h2 => ?_) (sortD_srtd ltK_swo xs) s (p2.trans p.symm)
  exact (both a (p2.mem_iff.mp ha) b (p.mem_iff.mp hb)).2 h2 h1
end
end LH
end

section
set_option Elab.async false
set_option linter.all false
set_option maxRecDepth 100000
set_option maxHeartbeats 1000000
/-! tuple(..), list(..), sorted(..) of what is at hand. -/
namespace LH
open PySem PySem.Spec L2
section
variable {X : Cx}
/-- two ints in a tuple -/
def PairAt (H : Hp) (x : V) (p : Int × Int) : Prop := ∃ t, x = .ref t ∧ Rd H t (.tup [.int p.1, .int p.2])
def rSortPR (K : PySem.W.Frag) : List V → Hp → VK → Prop := fun vs H Q => ∃ (a : Addr) (xs : List V) (k : V → Int × Int), vs = [V.ref a] ∧ SqL K H a xs ∧ (∀ x ∈ xs, PairAt H x (k x)) ∧
  ∀ ys p, SrtO.Srtd (ltP k) ys → ys.Perm xs → H p = none → Q (.ref p) (upd H p (.lst ys))
theorem cr_sortPR : CallR X (.builtin "sorted") (rSortPR X.K) := by
  intro pins s σ H vs us Q I r h
  obtain ⟨a, xs, k, e0, hs, hx, q⟩ := h
  subst e0
  obtain ⟨its, rv, hl, hz⟩ := I.list hs
  obtain ⟨u, eu, ru⟩ := vals1 r
  subst eu
  cases (show u = Value.ref a from ru)
  obtain ⟨e1, e2⟩ := refs_back rv fun x m => by
    obtain ⟨t, e, _⟩ := hx x m
    exact ⟨t, e⟩
  refine SrtO.sorted_pairsO (k := fun u => k (backV u)) hl.isList (by rw [← rv.length]; exact hz) (fun v hv => ?_) fun h' d out h1 h2 kp hd hn => ?_
  · obtain ⟨t, et⟩ := e2 v hv
    subst et
    have hm : V.ref t ∈ xs := by rw [e1]; exact List.mem_map.mpr ⟨_, hv, rfl⟩
    obtain ⟨t', e, ht⟩ := hx _ hm
    cases e
    obtain ⟨its2, r2, ⟨o, ho, hcl, n, hd⟩, _⟩ := I.tuple (.inl ht)
    obtain ⟨u1, u2, e3, ri, rj⟩ := vals2 r2
    subst e3
    obtain ⟨t1, ei⟩ := ri
    obtain ⟨t2, ej⟩ := rj
    subst ei; subst ej
    exact ⟨t, o, t1, t2, n, rfl, ho, hcl, hd⟩
  · have h3 : ∀ u ∈ out, ∃ a, u = Value.ref a := fun u hu => e2 u (h2.perm.mem_iff.mp hu)
    obtain ⟨n, hn⟩ := hn
    have hb : SrtO.Stb (ltP k) (out.map backV) xs := by
      rw [e1]
      exact SrtO.Stb.map (ltP_swo k) backV h2
    refine ⟨.ref d, upd H d (.lst (out.map backV)), I.laid (t' := s.toks) kp hd ⟨?_, out, n, vals_back h3, hn⟩, rfl, q _ d (SrtO.srtd_map h1) hb.perm (I.hok.fresh hd)⟩
    rw [hb.len]
    exact hz
theorem cr_sortR : CallR X (.builtin "sorted") (fun vs H Q => rSortedI X.K vs H Q ∨ rSortPR X.K vs H Q) := fun pins s σ H vs us Q I r h => h.elim (fun h => cr_sortedI pins s σ H vs us Q I r h) fun h => cr_sortPR pins s σ H vs us Q I r h
end
/-! ints and pairs, represented -/
theorem rl_ints {F : Hp} : ∀ {vs : List V} {ds : List D}, RpL F vs ds → (ds.all isIntD) = true → ∃ ns : List Int, vs = ns.map V.int ∧ ds = ns.map PyData.int
  | _, _, .nil, _ => ⟨[], rfl, rfl⟩
  | _, _, .cons a r, h => by
    rw [List.all_cons, Bool.and_eq_true] at h
    obtain ⟨i, rfl⟩ := isInt_of h.1
    cases a
    obtain ⟨ns, e1, e2⟩ := rl_ints r h.2
    exact ⟨i :: ns, by rw [e1]; rfl, by rw [e2]; rfl⟩
theorem rl_of_ints {F : Hp} : ∀ ns : List Int, RpL F (ns.map V.int) (ns.map PyData.int)
  | [] => .nil
  | i :: ns => .cons (.int i) (rl_of_ints ns)
open Classical in
/-- what a pair's address stands for -/
noncomputable def kV (H : Hp) (x : V) : Int × Int := if h : ∃ p, PairAt H x p then h.choose else (0, 0)
theorem pairAt_one {H : Hp} {x : V} {p q : Int × Int} (h1 : PairAt H x p) (h2 : PairAt H x q) : p = q := by
  obtain ⟨t, e, h1⟩ := h1
  obtain ⟨t', e', h2⟩ := h2
  rw [e] at e'
  cases e'
  have e0 : ([.int p.1, .int p.2] : List V) = [.int q.1, .int q.2] := by
    rcases h1 with h1 | ⟨o, h1⟩ <;> rcases h2 with h2 | ⟨o', h2⟩
    · rw [h1] at h2; have := Option.some.inj h2; injection this
    · rw [h1] at h2; have := Option.some.inj h2; cases this
    · rw [h1] at h2; have := Option.some.inj h2; cases this
    · rw [h1] at h2; have := Option.some.inj h2; injection this with _ this; injection this
  injection e0 with a b
  injection b with b _
  injection a with a
  injection b with b
  exact Prod.ext a b
theorem kV_at {H : Hp} {x : V} {p : Int × Int} (h : PairAt H x p) : kV H x = p := by
  unfold kV
  have hx : ∃ p, PairAt H x p := ⟨p, h⟩
  rw [dif_pos hx]
  exact pairAt_one hx.choose_spec h
theorem rp_pair {F H : Hp} (s : Sub F H) {v : V} {i j : Int} (h : Rp F v (.tuple [.int i, .int j])) : PairAt H v (i, j) := by
  cases h with
  | tup h r => cases r with
    | cons a r => cases r with
      | cons b r => cases r; cases a; cases b; exact ⟨_, rfl, Rd.sub s h⟩
theorem rl_pairs {F H : Hp} (s : Sub F H) : ∀ {vs : List V} {ds : List D}, RpL F vs ds → (ds.all isPairD) = true → (∀ x ∈ vs, PairAt H x (kV H x) ∧ Rp F x (.tuple [.int (kV H x).1, .int (kV H x).2])) ∧ ds = vs.map fun x => .tuple [.int (kV H x).1, .int (kV H x).2]
  | _, _, .nil, _ => ⟨fun x h => (by cases h), rfl⟩
  | _, _, .cons a r, h => by
    rw [List.all_cons, Bool.and_eq_true] at h
    obtain ⟨i, j, rfl⟩ := isPair_of h.1
    obtain ⟨h1, h2⟩ := rl_pairs s r h.2
    have hp := rp_pair s a
    have hk := kV_at hp
    refine ⟨fun x hx => ?_, ?_⟩
    · rcases List.mem_cons.mp hx with rfl | hx
      · rw [hk]; exact ⟨hp, a⟩
      · exact h1 x hx
    · rw [List.map_cons, hk, ← h2]
theorem rl_map {F : Hp} {f : V → D} : ∀ {vs : List V}, (∀ x ∈ vs, Rp F x (f x)) → RpL F vs (vs.map f)
  | [], _ => .nil
  | x :: vs, h => .cons (h x List.mem_cons_self) (rl_map fun y hy => h y (List.mem_cons_of_mem _ hy))
section
variable {X : Cx} {T : TL} {B : Option Addr} {a : Expr} {da : ME} {pos : Pos}
/-- sorted of a list that is at hand -/
theorem sort_ok {K : PySem.W.Frag} {P F H : Hp} {ρ : Env} {σ : St} {ad : Addr} {vs : List V} {ds : List D} {Q : VK} (R : Rel T B P F H ρ σ) (h : Rd F ad (.lst vs)) (rl : RpL F vs ds) (hs : sortable ds = true)
    (k : ∀ v H' F', Le P F F' → Rel T B P F' H' ρ σ → RepR P F' H' ρ σ (.tmp (sortD ltv ds)) v → Q v H') : rSortedI K [.ref ad] H Q ∨ rSortPR K [.ref ad] H Q := by
  have fin : ∀ (p : Addr) (ws : List V), H p = none → RpL F ws (sortD ltv ds) → Q (.ref p) (upd H p (.lst ws)) := fun p ws hp rw' => by
    obtain ⟨R3, q3⟩ := R.newLst hp rw'
    exact k _ _ F (Le.refl _ _) R3 q3
  unfold sortable at hs
  rcases Bool.or_eq_true_iff.mp hs with hi | hp
  · obtain ⟨ns, e1, e2⟩ := rl_ints rl hi
    subst e1
    refine .inl ⟨ad, ns, rfl, .inl (Rd.sub R.fh h), fun ns' p h1 h2 h3 => ?_⟩
    have e : sortD ltv ds = ns'.map PyData.int := by
      refine sorted_one hs (by rw [e2]; exact h1.map PyData.int) ?_
      refine List.pairwise_map.mpr (h2.imp fun {x y} hxy => ?_)
      show SrtO.lexB (y, 0) (x, 0) = false
      exact SrtO.lexB_no.mpr (by simp only; omega)
    exact fin p _ h3 (by rw [e]; exact rl_of_ints ns')
  · obtain ⟨h1, h2⟩ := rl_pairs R.fh rl hp
    refine .inr ⟨ad, vs, kV H, rfl, .inl (Rd.sub R.fh h), fun x hx => (h1 x hx).1, fun ys p q1 q2 q3 => ?_⟩
    have e : sortD ltv ds = ys.map fun x => .tuple [.int (kV H x).1, .int (kV H x).2] := by
      refine sorted_one hs (by rw [h2]; exact q2.map _) ?_
      exact List.pairwise_map.mpr (q1.imp fun {x y} hxy => hxy)
    exact fin p ys q3 (by rw [e]; exact rl_map fun x hx => (h1 x (q2.mem_iff.mp hx)).2)
variable (hst : starEach [a] X.env = (false, eval a X.env) :: starEach [] X.env) (ha : PA X [a] (rdA T B [da]))
include hst ha
theorem pe_dSorted {p : Pos} (hg : Gl X "sorted") (hm : X.mg "sorted" = none) : PE X (.Call (.Name "sorted" p) [a] [] pos) (rdE T B (dEat (fEat .sorted) (mLst da))) :=
  PE.imp (pe_callB cr_sortR hg hm (by decide +kernel) ha (he := hst) (hpl := rfl)) fun σ H Q h => by
    obtain ⟨P, F, ρ, r, ρ', R, ev, k⟩ := h
    obtain ⟨xs, e1, e2⟩ := dEat_some ev
    obtain ⟨r0, ρ1, e3, e4⟩ := mLst_some e1
    have e2 : (if sortable xs then some (LH.R.tmp (sortD ltv xs)) else none) = some r := e2
    split at e2
    · rename_i hs
      cases e2
      refine ⟨P, F, ρ, [r0], ρ1, R, by unfold dArgs; rw [e3]; rfl, fun vs H1 F1 l1 R1 q1 => ?_⟩
      obtain ⟨v, rfl, q2⟩ := repRs1 q1
      obtain ⟨F2, l2, R2, rp, _, _⟩ := share_ok R1 q2 e4
      cases rp with
      | lst h1 rl => exact sort_ok R2 h1 rl hs fun v H' F' l' R' q => k v H' F' ((l1.trans l2).trans l') R' q
    · cases e2
theorem pe_dTuple {p : Pos} (hg : Gl X "tuple") (hm : X.mg "tuple" = none) : PE X (.Call (.Name "tuple" p) [a] [] pos) (rdE T B (dEat (fEat .tuple) (mSeq da))) :=
  PE.imp (pe_callTy call_tuple_of hg hm (by decide +kernel) ha (he := hst) (hpl := rfl)) fun σ H Q h => by
    obtain ⟨P, F, ρ, r, ρ', R, ev, k⟩ := h
    obtain ⟨xs, e1, e2⟩ := dEat_some ev
    obtain ⟨r0, ρ1, d, e3, e4, e5⟩ := mSeq_some e1
    cases e2
    refine ⟨P, F, ρ, [r0], ρ1, R, by unfold dArgs; rw [e3]; rfl, fun vs H1 F1 l1 R1 q1 => ?_⟩
    obtain ⟨v, rfl, q2⟩ := repRs1 q1
    obtain ⟨F2, l2, R2, rp, _, _⟩ := share_ok R1 q2 e4
    cases rp with
    | lst h1 rl =>
      cases e5
      refine ⟨_, _, rfl, .inl ⟨.inl (Rd.sub R2.fh h1), fun l hl => ?_⟩⟩
      obtain ⟨l3, R3, q3⟩ := R2.newTup hl rl
      exact k _ _ _ ((l1.trans l2).trans l3) R3 q3
    | tup h1 rl =>
      cases e5
      exact ⟨_, _, rfl, .inr ⟨.inl (Rd.sub R2.fh h1), k _ H1 F2 (l1.trans l2) R2 (.tup h1 rl)⟩⟩
    | _ => cases e5
theorem pe_dList {p : Pos} (hg : Gl X "list") (hm : X.mg "list" = none) : PE X (.Call (.Name "list" p) [a] [] pos) (rdE T B (dEat (fEat .list) (mSeq da))) :=
  PE.imp (pe_callTy call_list_of hg hm (by decide +kernel) ha (he := hst) (hpl := rfl)) fun σ H Q h => by
    obtain ⟨P, F, ρ, r, ρ', R, ev, k⟩ := h
    obtain ⟨xs, e1, e2⟩ := dEat_some ev
    obtain ⟨r0, ρ1, d, e3, e4, e5⟩ := mSeq_some e1
    cases e2
    refine ⟨P, F, ρ, [r0], ρ1, R, by unfold dArgs; rw [e3]; rfl, fun vs H1 F1 l1 R1 q1 => ?_⟩
    obtain ⟨v, rfl, q2⟩ := repRs1 q1
    obtain ⟨F2, l2, R2, rp, _, _⟩ := share_ok R1 q2 e4
    cases rp with
    | lst h1 rl =>
      cases e5
      refine ⟨_, _, rfl, .inl (.inl (Rd.sub R2.fh h1)), fun l hl => ?_⟩
      obtain ⟨R3, q3⟩ := R2.newLst hl rl
      exact k _ _ _ (l1.trans l2) R3 q3
    | tup h1 rl =>
      cases e5
      refine ⟨_, _, rfl, .inr (.inl (Rd.sub R2.fh h1)), fun l hl => ?_⟩
      obtain ⟨R3, q3⟩ := R2.newLst hl rl
      exact k _ _ _ (l1.trans l2) R3 q3
    | _ => cases e5
end
end LH
end

section
set_option Elab.async false
set_option linter.all false
set_option maxRecDepth 100000
set_option maxHeartbeats 2000000
/-! sum(..) of a generator expression. -/
namespace LH
open PySem PySem.Spec L2
def valI : Value → Int
  | .int i _ => i
  | _ => 0
def totI (us : List Value) : Int := (us.map valI).sum
theorem totI_snoc (us : List Value) (v : Value) : totI (us ++ [v]) = totI us + valI v := by unfold totI; rw [List.map_append, List.sum_append]; simp
/-- what is summed up stands in the list at S -/
abbrev tieN (a : Addr) (go : Obj) (S : Addr) : List Value → List (Addr × Obj) → Prop := fun us cons => ∃ t c, cons = [(a, go), (S, L2.lstObj #[.int (totI us) t] c)]
theorem tiesN {a S : Addr} {go : Obj} : ∀ us cons, tieN a go S us cons → cons.map (·.1) = [a, S] := fun us cons ⟨t, c, h⟩ => by rw [h]; rfl
theorem put_at {h : Heap} {S : Addr} {vs ws : Array Value} {c : Nat} (e : h.get? S = some (L2.lstObj vs c)) : ∃ c', (h.update S (Obj.mapSeq fun _ => ws)).get? S = some (L2.lstObj ws c') := ⟨_, Heap.get?_update_self (Obj.mapSeq fun _ => ws) e rfl⟩
theorem takesN {a S : Addr} {go : Obj} (nc : ∀ v, go.data ≠ .cell v) (hne : a ≠ S) : Takes1 (tieN a go S) [a, S] := fun us cons v s1 h at1 => by
  obtain ⟨t, c, rfl⟩ := h
  have e1 := at1 (S, L2.lstObj #[.int (totI us) t] c) (by simp)
  obtain ⟨c', e2⟩ := put_at (ws := #[.int (totI (us ++ [v])) t]) e1
  refine ⟨{ s1 with heap := s1.heap.update S (Obj.mapSeq fun _ => #[.int (totI (us ++ [v])) t]) }, [(a, go), (S, L2.lstObj #[.int (totI (us ++ [v])) t] c')], ⟨t, c', rfl⟩, fun p hp => ?_, fun b o hb e => ?_, rfl, rfl⟩
  · rcases List.mem_cons.mp hp with rfl | hp
    · exact ⟨(Heap.get?_update_other _ _ (Ne.symm hne)).trans (at1 (a, go) (by simp)), nc⟩
    · rw [List.mem_singleton.mp hp]
      exact ⟨e2, fun v q => by cases q⟩
  · have hbS : S ≠ b := by rintro rfl; exact hb (by simp)
    exact (Heap.get?_update_other _ _ hbS).trans e
theorem intsOf_at : ∀ {ys : List D} {ns : List Int}, intsOf ys = some ns → ys = ns.map .int
  | [], ns, h => by cases h; rfl
  | y :: ys, ns, h => by
    cases y with
    | int i =>
      obtain ⟨ms, h1, rfl⟩ := Option.map_eq_some_iff.mp (show (intsOf ys).map (i :: ·) = some ns from h)
      rw [intsOf_at h1]; rfl
    | _ => cases h
theorem vals_tot {F : Hp} : ∀ {ns : List Int} {hist : List V} {us : List Value}, RpL F hist (ns.map .int) → Vals hist us → totI us = ns.sum
  | [], hist, us, r, q => by cases r; cases q; rfl
  | n :: ns, hist, us, r, q => by
    cases r with
    | cons r1 r2 =>
      cases r1
      cases q with
      | cons q1 q2 =>
        obtain ⟨t, rfl⟩ := q1
        have := vals_tot r2 q2
        unfold totI at this ⊢
        rw [List.map_cons, List.sum_cons, List.sum_cons, this]; rfl
section
variable {X : Cx} {T : TL} {B : Option Addr} {P F0 : Hp} {ys : List D} {ρe : Env} {own : List Nat} {σ0 : St} {A0 : Around} {a S : Addr} {go : Obj} {gi : Nat} {R : Result → Shared → Prop}
theorem sum_loop (hpn : X.pn = []) (hh : A0.handled = none) (hd : A0.depth < recursionLimit) (isg : ∀ h : Heap, h.get? a = some go → h.IsGen a gi) (nc : ∀ v, go.data ≠ .cell v) (hne : a ≠ S) (hsz : ∀ b ∈ [a, S], X.s_0.heap.objs.size ≤ b) (hcell : ∀ b ∈ [a, S], ∀ x c, X.env.cells.lookup x = some c → c ≠ b)
    {ns : List Int} (hy : ys = ns.map .int) (hR : ∀ s' cons ip us hist σ' σq H F t, AllOut X T B P F0 (tieN a go S) ys ρe own σ0 s' cons ip us hist σ' σq H F → R (.ok (.ret (.int ns.sum t))) s') : ∀ (n : Nat) (stg : Int) (us : List Value) (t : Tok) (c : Nat) (s : Shared), (stg = 0 ∨ stg = 2) → n ≤ ys.length →
    s.heap.get? S = some (L2.lstObj #[.int (totI us) t] c) → (∃ F hist, Vals hist us ∧ RpL F hist (ys.take (ys.length - n))) →
    Live A0.in1.in1 (model X.prog X.w) (gR X T B P F0 (tieN a go S) ys false ρe own σ0) (gY X T B P F0 (tieN a go S) [a, S] ys false ρe own σ0) a go gi n s → codeAny (model X.prog X.w) A0 (.builtin "sum.loop" ⟨[.ref a, .ref S, rawInt stg, rawInt 0], []⟩) R s := by
  intro n
  induction n with
  | zero =>
    intro stg us t c s hs hn eS hu L
    refine codeAny_builtin F.entry_sum_loop ?_
    rw [Around.under_plainId F.plain_sum_loop _]
    show wpAny _ A0.in1 (seqItems? (.ref S) >>= _) _ _ s
    refine wpAny_bind (wpAny_seqItems eS rfl ?_)
    show wpAny _ A0.in1 (tryCatch (pyNext (.ref a)) _ >>= _) _ _ s
    refine wpAny_bind (wpAny_tryCatch (wpAny_mono (pull (A0 := A0.in1) tiesN (takesN nc hne) hpn hh hd isg hsz hcell hn (fun _ => rfl) L) (fun r s' h => ?_) fun _ _ e => e))
    cases r with
    | none =>
      obtain ⟨_, _, cons, ip, us', hist, σ', σq, H, F, fin⟩ := h
      have e2 : totI us = ns.sum := by
        obtain ⟨F2, hi, q1, q2⟩ := hu
        rw [Nat.sub_zero, List.take_length, hy] at q2
        exact vals_tot q2 q1
      rw [e2]
      exact wpAny_pure (hR s' cons ip us' hist σ' σq H F t fin)
    | some v =>
      obtain ⟨x, d, H, F, σ', cons, ip, us, hist, O⟩ := h
      exact absurd rfl O.pos
  | succ n ih =>
    intro stg us t c s hs hn eS hu L
    refine codeAny_builtin F.entry_sum_loop ?_
    rw [Around.under_plainId F.plain_sum_loop _]
    show wpAny _ A0.in1 (seqItems? (.ref S) >>= _) _ _ s
    refine wpAny_bind (wpAny_seqItems eS rfl ?_)
    show wpAny _ A0.in1 (tryCatch (pyNext (.ref a)) _ >>= _) _ _ s
    refine wpAny_bind (wpAny_tryCatch (wpAny_mono (pull (A0 := A0.in1) tiesN (takesN nc hne) hpn hh hd isg hsz hcell hn (fun _ => rfl) L) (fun r s' h => ?_) fun _ _ e => e))
    cases r with
    | none => obtain ⟨z, _⟩ := h; cases z
    | some v =>
      obtain ⟨x, d, H, F, σ', cons, ip, us1, hist, O⟩ := h
      obtain ⟨t1, c1, hc⟩ := O.held
      have eS1 := (O.I.pin (S, L2.lstObj #[.int (totI us1) t1] c1) (List.mem_append_right _ (List.mem_append_left _ (by rw [hc]; simp)))).1
      have ea := (O.I.pin (a, go) (List.mem_append_right _ (List.mem_append_left _ (by rw [hc]; simp)))).1
      obtain ⟨i, rfl⟩ : ∃ i, d = .int i := by
        have g := O.get
        rw [hy, List.getElem?_map] at g
        obtain ⟨i, _, e⟩ := Option.map_eq_some_iff.mp g
        exact ⟨i, e.symm⟩
      obtain ⟨tv, rfl⟩ : ∃ tv, v = .int i tv := by
        have rp := O.rp
        have rx := O.rx
        cases rp
        exact rx
      have e12 : totI us = totI us1 := by
        obtain ⟨F2, hi, q1, q2⟩ := hu
        have q3 := O.rl
        rw [hy, ← List.map_take] at q2 q3
        rw [vals_tot q2 q1, vals_tot q3 O.vals]
      have tk : totI (us1 ++ [Value.int i tv]) = totI us + i := by rw [totI_snoc, e12]; rfl
      have nx : ∃ F hist, Vals hist (us1 ++ [Value.int i tv]) ∧ RpL F hist (ys.take (ys.length - n)) := by
        refine ⟨F, hist ++ [x], O.vals.append (.cons O.rx .nil), ?_⟩
        have e : ys.take (ys.length - n) = ys.take (ys.length - (n + 1)) ++ [.int i] := by
          have g := O.get
          have hk : ys.length - n = ys.length - (n + 1) + 1 := by omega
          rw [hk, List.take_add_one, g]
          rfl
        rw [e]
        exact O.rl.append (.cons O.rp .nil)
      have go_on : ∀ (h2 : Heap) (tk2 : Nat) (t2 : Tok) (c2 : Nat), (∀ b o, b ∉ [a, S] → s'.heap.get? b = some o → h2.get? b = some o) → h2.get? a = some go → h2.get? S = some (L2.lstObj #[.int (totI (us1 ++ [Value.int i tv])) t2] c2) → ∀ stg', (stg' = 0 ∨ stg' = 2) →
          codeAny (model X.prog X.w) A0 (.builtin "sum.loop" ⟨[.ref a, .ref S, rawInt stg', rawInt 0], []⟩) R { s' with heap := h2, toks := tk2 } := fun h2 tk2 t2 c2 kp ha hS stg' hst' => by
        rcases O.alt with ⟨_, hst, _⟩ | ⟨_, cont⟩
        · cases hst
        · refine ih stg' (us1 ++ [Value.int i tv]) t2 c2 _ hst' (by omega) hS nx ?_
          exact cont { s' with heap := h2, toks := tk2 } [(a, go), (S, L2.lstObj #[.int (totI (us1 ++ [Value.int i tv])) t2] c2)] ⟨t2, c2, rfl⟩ (fun p hp => by
            rcases List.mem_cons.mp hp with rfl | hp
            · exact ⟨ha, nc⟩
            · rw [List.mem_singleton.mp hp]; exact ⟨hS, fun v q => by cases q⟩) (by simp) kp rfl rfl
      have hS1 : s'.heap.get? S = some (L2.lstObj #[.int (totI us1) t1] c1) := eS1
      have oth : ∀ (f : Array Value → Array Value) (h : Heap), (∀ b o, b ∉ [a, S] → s'.heap.get? b = some o → h.get? b = some o) → (∀ b o, b ∉ [a, S] → s'.heap.get? b = some o → (h.update S (Obj.mapSeq f)).get? b = some o) := fun f h k b o hb e =>
        (Heap.get?_update_other _ _ (show S ≠ b from by rintro rfl; exact hb (by simp))).trans (k b o hb e)
      rcases hs with rfl | rfl
      · show wpAny _ A0.in1 (if (_ : Bool) = true then (mkInt (totI us + i) >>= _) else _) _ _ _
        split
        · refine wpAny_bind (wpAny_mkInt ?_)
          show wpAny _ A0.in1 (updateSeq S (fun _ => #[.int (totI us + i) s'.toks]) >>= _) _ _ _
          refine wpAny_bind ?_
          refine wpAny_updateSeq hS1 rfl (wpAny_pure ⟨plainId_quiet PySem.F.plain_sum_loop _, ?_⟩)
          exact go_on _ _ s'.toks _ (oth _ _ fun _ _ _ e => e) ((Heap.get?_update_other _ _ (Ne.symm hne)).trans ea) (by rw [tk]; exact Heap.get?_update_self _ hS1 rfl) 0 (.inl rfl)
        · refine wpAny_bind (wpAny_rule ?_)
          refine wpAny_bind (wpAny_attempt (wpAny_holding (wpAny_add_int ?_)))
          show wpAny _ A0.in1 (updateSeq S (fun _ => #[.int (totI us + i) s'.toks]) >>= _) _ _ _
          refine wpAny_bind (wpAny_updateSeq hS1 rfl ?_)
          have hS₂ := Heap.get?_update_self (Obj.mapSeq fun _ => #[Value.int (totI us + i) s'.toks]) hS1 rfl
          refine wpAny_bind (wpAny_letGo ?_)
          refine wpAny_bind (wpAny_updateSeq hS₂ rfl (wpAny_pure ⟨plainId_quiet PySem.F.plain_sum_loop _, ?_⟩))
          exact go_on _ _ s'.toks _ (oth _ _ (oth _ _ fun _ _ _ e => e)) ((Heap.get?_update_other _ _ (Ne.symm hne)).trans ((Heap.get?_update_other _ _ (Ne.symm hne)).trans ea)) (by rw [tk]; exact Heap.get?_update_self _ hS₂ rfl) 2 (.inr rfl)
      · show wpAny _ A0.in1 ((holding [Value.int i tv] (binaryOp .Add (.int (totI us) t) (.int i tv))).attempt >>= _) _ _ _
        refine wpAny_bind (wpAny_attempt (wpAny_holding (wpAny_add_int ?_)))
        show wpAny _ A0.in1 (updateSeq S (fun _ => #[.int (totI us + i) s'.toks]) >>= _) _ _ _
        refine wpAny_bind (wpAny_updateSeq hS1 rfl ?_)
        have hS₂ := Heap.get?_update_self (Obj.mapSeq fun _ => #[Value.int (totI us + i) s'.toks]) hS1 rfl
        refine wpAny_bind (wpAny_letGo ?_)
        refine wpAny_bind (wpAny_updateSeq hS₂ rfl (wpAny_pure ⟨plainId_quiet PySem.F.plain_sum_loop _, ?_⟩))
        exact go_on _ _ s'.toks _ (oth _ _ (oth _ _ fun _ _ _ e => e)) ((Heap.get?_update_other _ _ (Ne.symm hne)).trans ((Heap.get?_update_other _ _ (Ne.symm hne)).trans ea)) (by rw [tk]; exact Heap.get?_update_self _ hS₂ rfl) 2 (.inr rfl)
end
end LH
end

section
set_option Elab.async false
set_option linter.all false
set_option maxRecDepth 100000
set_option maxHeartbeats 2000000
/-! sum(..) of a generator expression, of a list; read. -/
namespace LH
open PySem PySem.Spec L2
section
variable {X : Cx} {T : TL} {B : Option Addr} {elt : Expr} {dE : ME} {cs : List Comprehension} {scope : Scope} {gpos p pos : Pos} {tg iter : Expr} {ifs : List Expr} {own : List (Str × Nat)} {it : MI} {g : MG} {mt : MT} {cls : List Cl} {kg : Nat}
theorem pe_dSumG (G : GenOk kg X T B scope own tg iter ifs cs elt it g mt cls dE) (he : starEach [.GeneratorExp elt (⟨tg, iter, ifs, 0⟩ :: cs) scope gpos] X.env = (false, eval (.GeneratorExp elt (⟨tg, iter, ifs, 0⟩ :: cs) scope gpos) X.env) :: starEach [] X.env)
    (hg : Gl X "sum") (hm : X.mg "sum" = none) : PE X (.Call (.Name "sum" p) [.GeneratorExp elt (⟨tg, iter, ifs, 0⟩ :: cs) scope gpos] [] pos) (rdE T B (dEatG (fEat .sum) (dGen .col (own.map (·.2)) dE it g mt cls))) := by
  refine ⟨fun pins s σ H Q I h => ?_⟩
  obtain ⟨P, F, ρ, r, ρ', R, ev, k⟩ := h
  obtain ⟨ys, st, e1, hz, e4⟩ := eatG_some ev
  obtain ⟨ns, e5, rfl⟩ := Option.map_eq_some_iff.mp (show (intsOf ys).map (fun ns => LH.R.val (.int ns.sum)) = some r from e4)
  have hy := intsOf_at e5
  obtain ⟨xs, ρ1, ρe, e2, e3, rfl⟩ := dGen_some e1
  obtain ⟨c, Pt, oc, TB, hT, hcode⟩ := G.tab
  have hst : st = false := stopsN (so_walk (so_clauses cls) (nostopC cls) _ _ _ _ _ e3) fun h hy => by
    subst h; subst hy; exact absurd e3 (nostopW (nostopC cls) _ _ _)
  subst hst
  refine wpAny_Call_Name_kw (ld_blt I hg hm (show bootBuiltins "sum" = some (.builtin "sum") by decide +kernel) ?_)
  refine PyProof.Rows.callWith_builtin1 ?_ he (by rfl)
  rw [he]
  show wpAny _ _ (spliced ((false, eval (.GeneratorExp elt (⟨tg, iter, ifs, 0⟩ :: cs) scope gpos) X.env) :: backTo pos (starEach [] X.env))) _ _ s
  refine Calls.spliced_cons (gen_make (k := kg + 8) G.room TB hT hcode G.it G.ok G.co G.dot G.fold G.nl I R e2 fun a s6 s4 H4 F4 itA fp tn J gi go cg Pg m Rd => ?_)
  refine Calls.spliced_nil ?_
  refine call_function_tree PySem.F.kind_sum PySem.F.plain_sum PySem.F.entry_sum (PySem.F.args_sum1 _) ?_
  unfold Builtin.«sum»
  simp only [List.length_cons, List.length_nil]
  rw [if_neg (by decide)]
  refine wpAny_bind (wpAny_of_eq (show Builtin.Builtins.bindParams "sum" ["start"] 0 { } = pure [none] from rfl) ?_)
  refine wpAny_bind (wpAny_pyIter_gen (Rd.isg _ Rd.at_) ?_)
  refine wpAny_bind (wpAny_mkInt ?_)
  refine wpAny_bind (wpAny_pure ?_)
  simp only [List.forIn_cons, List.forIn_nil]
  refine wpAny_bind (wpAny_bind (wpAny_bind (wpAny_isInstance (T := "int") (b := false) (typeIs_int _ _ _) sub_int_str ?_)))
  simp only [Bool.false_eq_true, if_false]
  refine wpAny_pure (wpAny_bind (wpAny_bind (wpAny_isInstance (T := "int") (b := false) (typeIs_int _ _ _) sub_int_bytes ?_)))
  simp only [Bool.false_eq_true, if_false]
  refine wpAny_pure (wpAny_bind (wpAny_bind (wpAny_isInstance (T := "int") (b := false) (typeIs_int _ _ _) sub_int_bytearray ?_)))
  simp only [Bool.false_eq_true, if_false]
  refine wpAny_pure (wpAny_pure ?_)
  refine wpAny_bind (wpAny_newObj_type ?_)
  have hr2 : Room (kg + 6) X.A.in1.in1 := (G.room.mono (show kg + 8 ≤ kg + 8 from Nat.le_refl _)).in1.in1
  have hSI : s6.heap.objs.size ≠ a := Nat.ne_of_gt Rd.top
  have hup : s4.heap.objs.size < s6.heap.objs.size := Nat.lt_trans Rd.up Rd.top
  have oth : ∀ b o, s6.heap.get? b = some o → (s6.heap.push { cls := .type "list", data := .seq #[.int 0 s6.toks] }).get? b = some o := fun b o e => Heap.get?_push_of_some _ e
  have hS : (s6.heap.push { cls := .type "list", data := .seq #[.int 0 s6.toks] }).get? s6.heap.objs.size = some { cls := .type "list", data := .seq #[.int 0 s6.toks] } := Heap.get?_push_size _ rfl
  have L := gen_live G Rd (A := X.A.in1.in1) I.ok.frames (hr2.mono (by omega)) (gk := .col) (tie := tieN a go s6.heap.objs.size) (ca := [a, s6.heap.objs.size]) tiesN (s7 := { s6 with heap := s6.heap.push { cls := .type "list", data := .seq #[.int 0 s6.toks] }, toks := s6.toks + 1 })
    (cons := [(a, go), (s6.heap.objs.size, _)]) ⟨s6.toks, _, rfl⟩ oth rfl rfl (fun p hp => by
      rcases List.mem_cons.mp hp with rfl | hp
      · exact ⟨oth _ _ Rd.at_, Rd.up, Rd.nc⟩
      · rw [List.mem_singleton.mp hp]
        exact ⟨hS, hup, fun v q => by cases q⟩) e3
  refine wpAny_pure ⟨plainId_quiet PySem.F.plain_sum_loop _, sum_loop (X := genCx X X.A.in1.in1 s4 H4 (gEnv X scope s4 cg) fp) (A0 := X.A) (P := P) (F0 := F4) (ρe := ρe) (own := own.map (·.2)) (σ0 := wipe σ (own.map (·.2))) rfl G.room.hd (by have := hr2.dp; show X.A.in1.depth < _; have := G.room.in1.dp; omega) Rd.isg Rd.nc (Ne.symm hSI)
    (fun b hb => by
      rcases List.mem_cons.mp hb with rfl | hb
      · exact Nat.le_of_lt Rd.up
      · rw [List.mem_singleton.mp hb]; exact Nat.le_of_lt hup)
    (fun b hb => by
      rcases List.mem_cons.mp hb with rfl | hb
      · exact gen_cells G Rd (.inl rfl)
      · rw [List.mem_singleton.mp hb]; exact gen_cells G Rd (.inr (Nat.le_refl _))) hy (fun s' cons ip us hist σ' σq H F t fin => ?_) ys.length 0 [] s6.toks _ _ (.inl rfl) (Nat.le_refl _) hS ⟨F4, [], .nil, by rw [Nat.sub_self]; exact .nil⟩ L⟩
  obtain ⟨H', F', I', l', R'⟩ := gen_fin G Rd fin.fin
  exact ⟨.int ns.sum, H', I', ⟨t, rfl⟩, k _ H' F' l' R' (.int _)⟩
end
end LH
end

section
set_option Elab.async false
set_option linter.all false
set_option maxRecDepth 100000
set_option maxHeartbeats 2000000
/-! methods of lists: index. -/
namespace LH
open PySem PySem.Spec L2
theorem dMethL_some {f : D → D → Option R} {a b : ME} {ρ ρ2 : Env} {r : R} (h : dMethL f a b ρ = some (r, ρ2)) :
    ∃ ra ρ1 rb xs0 x y, a ρ = some (ra, ρ1) ∧ look ra ρ1 = some (.list xs0) ∧ b ρ1 = some (rb, ρ2) ∧ look ra ρ2 = some x ∧ look rb ρ2 = some y ∧ f x y = some r := by
  unfold dMethL at h
  split at h
  · cases h
  · rename_i ra ρ1 e1
    split at h
    · cases h
    · rename_i x0 e0
      split at h
      · rename_i hl
        obtain ⟨xs0, rfl⟩ : ∃ xs, x0 = .list xs := by cases x0 <;> first | exact ⟨_, rfl⟩ | cases hl
        split at h
        · cases h
        · rename_i rb ρ' e2
          split at h
          · rename_i x y e3 e4
            split at h
            · cases h
            · rename_i r' e5
              cases h
              exact ⟨ra, ρ1, rb, xs0, x, y, e1, e0, e2, e3, e4, e5⟩
          · cases h
      · cases h
section
variable {X : Cx} {T : TL} {B : Option Addr} {o e : Expr} {da db : ME} {apos cpos : Pos}
theorem rd_methL {name id : String} {rr : V → List V → Hp → VK → Prop} {f : D → D → Option R}
    (serve : ∀ (P F H : Hp) (ρ : Env) (σ : St) (x y : D) (vx vy : V) (r : R) (Q : VK), Rel T B P F H ρ σ → Pk F H vx x → Pk F H vy y → f x y = some r → (∀ v H' F', Le P F F' → Rel T B P F' H' ρ σ → RepR P F' H' ρ σ r v → Q v H') → rr vx [vy] H Q)
    (σ : St) (H : Hp) (Q : VK) (h : rdE T B (dMethL f da db) σ H Q) : tBM X.K "list" rr (rdE T B da) (tCons (rdE T B db) tNil) σ H Q := by
  obtain ⟨P, F, ρ, r, ρ', R, ev, k⟩ := h
  obtain ⟨ra, ρ1, rb, xs0, x, y, e1, e0, e2, e3, e4, e5⟩ := dMethL_some ev
  refine ⟨P, F, ρ, ra, ρ1, R, e1, fun va H1 F1 l1 R1 q1 => ⟨?_, ?_⟩⟩
  · obtain ⟨a, vs, rfl, hr, _⟩ := (look_pk R1 q1 e0).list R1.fh
    exact .inl ⟨rfl, vs, .inl hr⟩
  · refine ⟨LH.pin P H1 ra va, F1, ρ1, rb, ρ', R1.pin q1, e2, fun vb H2 F2 l2 R2 q2 => ?_⟩
    have sb : Sub P (LH.pin P H1 ra va) := pin_sub R1
    have q1' := q1.keep R1 R2 l2
    refine serve _ F2 H2 ρ' σ x y va vb r Q R2 (look_pk (R2.less sb) q1' e3) (look_pk R2 q2 e4) e5 fun v H' F' l R' q => ?_
    refine k v H' F' ((l1.trans (l2.less sb)).trans (l.less sb)) (R'.less sb) ?_
    have nn : ∀ a, LH.pin P H1 ra va a = none → P a = none := fun a z => by
      cases e : P a with
      | none => rfl
      | some o => rw [sb a o e] at z; cases z
    cases r with
    | val d => exact q
    | slot i => exact q
    | tmp xs => obtain ⟨a, vs, h1, h2, h3, h4, h5, h6⟩ := q; exact ⟨a, vs, h1, h2, h3, h4, nn a h5, h6⟩
    | tdc kvs => obtain ⟨a, h1, h2, h3, h4, h6⟩ := q; exact ⟨a, h1, h2, h3, nn a h4, h6⟩
theorem pe_index (hu : X.A.units + 65 < cLine) (ho : PE X o (rdE T B da)) (he : PA X [e] (tCons (rdE T B db) tNil))
    (hbase : attributeBase o "index" X.env (eval o X.env) = eval o X.env)
    (hfew : ((backTo cpos (starEach [e] X.env)).all (fun x => !x.1) && (backToKw cpos (keywordEach [] X.env)).all (fun x => x.1.isSome) && decide ([e].length + ([] : List Keyword).length + (if ([] : List Keyword).isEmpty then 0 else 1) < 30)) = true)
    (hline : (apos.endLine == cpos.line) = true) (hs : starEach [e] X.env = (false, eval e X.env) :: starEach [] X.env) : PE X (.Call (.Attribute o "index" apos) [e] [] cpos) (rdE T B (dMethL fIndexL da db)) := by
  refine PE.imp (pe_bm PySem.F.plainAttrs_list PySem.F.slot_list_index PySem.F.type_list_index (mt_indexD hu) ho he hbase hfew hline hs (by rfl)) fun σ H Q h => rd_methL (name := "index") (id := "list.index") (fun P F H ρ σ x y vx vy r Q R hx hy hf q => ?_) σ H Q h
  unfold fIndexL at hf
  split at hf
  · rename_i xs
    split at hf
    · rename_i hc
      rw [Bool.and_eq_true] at hc
      obtain ⟨j, hj, rfl⟩ := Option.map_eq_some_iff.mp hf
      obtain ⟨hlt, h1, h2⟩ := List.findIdx?_eq_some_iff_getElem.mp hj
      have px : Dp X.K H vx (.list xs) := Rp.dp (hx.rp R.fh)
      have py : Dp X.K H vy y := Rp.dp (hy.rp R.fh)
      obtain ⟨a, vs, rfl, _⟩ := hx.list R.fh
      refine ⟨a, vy, y, xs, j, xs[j], rfl, rfl, px, py, hc.2, hc.1, List.getElem?_eq_getElem hlt, h1, fun m z' hm hz => ?_, q _ H F (Le.refl _ _) R (.int _)⟩
      obtain ⟨hml, hz2⟩ := List.getElem?_eq_some_iff.mp hz
      subst hz2
      simpa using h2 m hm
    · cases hf
  · cases hf
end
end LH
end

section
set_option Elab.async false
set_option linter.all false
set_option maxRecDepth 100000
set_option maxHeartbeats 2000000
/-! The translation is sound: contexts. -/
namespace LH
open PySem PySem.Spec L2
def spOf (T : TL) (f : Fn) : Sp := if f.io then spIO T f.sem else spP T f.sem
/-- X is a place where a text under S may run -/
structure Good (S : Stat) (T : TL) (k : Nat) (X : Cx) : Prop where
  N : X.N = S.N
  nd : S.N.Nodup
  nb : ∀ x ∈ S.N, (x == ("__debug__" : Str)) = false ∧ (x == ("__classdict__" : Str)) = false
  sc : X.env.scope = S.sc
  calm : X.calm = true
  room : Room (k + 8 * S.dep) X.A
  tab : ∃ c Pt oc, KnownC X c Pt oc ∧ (Pt, oc) ∈ T ∧ X.env.code = .ref c
  fns : ∀ x f, S.fn x = some f → (x == ("__debug__" : Str)) = false ∧ ∃ (a : Addr) (fd : FuncData) (ps : List Str), FnOk X.prog X.w X.K X.mg X.base CX0 k a fd ps (spOf T f) ∧ X.mg x = some (.ref a) ∧ PySem.W.keepIn X.K (.ref a) = true ∧ Binds X.K fd ps []
  blt : ∀ x b, bnames.lookup x = some b → S.fn x = none → X.mg x = none
  st : ∀ x ∈ S.st, (S.kind x = some .local ∨ S.kind x = some .cell) → X.fn x = true ∨ X.env.scope.names.lookup x = some .local
  xe : X.xe = fun _ _ => False
section
variable {S : Stat} {T : TL} {k : Nat} {X : Cx} {B : Option Addr}
theorem idx_at {N : List Str} {x : Str} {i : Nat} (h : idxOf N x = some i) : N[i]? = some x := by
  unfold idxOf at h
  obtain ⟨h1, h2, _⟩ := List.findIdx?_eq_some_iff_getElem.mp h
  have e : N[i] = x := by simpa using h2
  rw [List.getElem?_eq_getElem h1, e]
theorem Good.slot (g : Good S T k X) {x : Str} {i : Nat} (h : S.slot x = some i) : X.N[i]? = some x ∧ Vis X.env.scope x ∧ (x == ("__debug__" : Str)) = false ∧ (x == ("__classdict__" : Str)) = false := by
  have fin : ∀ k', S.kind x = some k' → (k' = .local ∨ k' = .cell ∨ k' = .free) → idxOf S.N x = some i → X.N[i]? = some x ∧ Vis X.env.scope x ∧ (x == ("__debug__" : Str)) = false ∧ (x == ("__classdict__" : Str)) = false := fun k' hk hk' hi => by
    have hi := idx_at hi
    obtain ⟨n1, n2⟩ := g.nb x (List.mem_of_getElem? hi)
    refine ⟨by rw [g.N]; exact hi, ?_, n1, n2⟩
    have hk : S.sc.names.lookup x = some k' := hk
    rw [← g.sc] at hk
    rcases hk' with rfl | rfl | rfl
    · exact .inl hk
    · exact .inr (.inl hk)
    · exact .inr (.inr hk)
  unfold Stat.slot at h
  split at h
  · rename_i e; exact fin _ e (.inl rfl) h
  · rename_i e; exact fin _ e (.inr (.inl rfl)) h
  · rename_i e; exact fin _ e (.inr (.inr rfl)) h
  · cases h
theorem Good.loc (g : Good S T k X) {x : Str} {i : Nat} (h : S.loc x = some i) : X.N[i]? = some x ∧ Loc X.env.scope x ∧ (X.fn x = true ∨ X.env.scope.names.lookup x = some .local) := by
  unfold Stat.loc at h
  split at h
  · rename_i hs
    have hs : x ∈ S.st := by simpa using hs
    have fin : ∀ k', S.kind x = some k' → (k' = .local ∨ k' = .cell) → idxOf S.N x = some i → X.N[i]? = some x ∧ Loc X.env.scope x ∧ (X.fn x = true ∨ X.env.scope.names.lookup x = some .local) := fun k' hk hk' hi => by
      refine ⟨by rw [g.N]; exact idx_at hi, ?_, g.st x hs (by rcases hk' with rfl | rfl; exact .inl hk; exact .inr hk)⟩
      have hk : S.sc.names.lookup x = some k' := hk
      rw [← g.sc] at hk
      rcases hk' with rfl | rfl
      · exact .inl hk
      · exact .inr hk
    split at h
    · rename_i e; exact fin _ e (.inl rfl) h
    · rename_i e; exact fin _ e (.inr rfl) h
    · cases h
  · cases h
theorem Good.glob (g : Good S T k X) {x : Str} (h : S.glob x = true) : Gl X x := by
  unfold Stat.glob at h
  have h : S.kind x = some .globalImplicit := by simpa using h
  show X.env.scope.names.lookup x = _
  rw [g.sc]
  exact h
theorem Good.built (g : Good S T k X) {x : Str} {b : BN} (h : S.built x = some b) : Gl X x ∧ X.mg x = none ∧ bnames.lookup x = some b := by
  unfold Stat.built at h
  split at h
  · rename_i hc
    rw [Bool.and_eq_true] at hc
    have hn : S.fn x = none := by simpa using hc.2
    exact ⟨g.glob hc.1, g.blt x b h hn, h⟩
  · cases h
theorem Good.user (g : Good S T k X) {x : Str} {f : Fn} (h : S.user x = some f) : Gl X x ∧ (x == ("__debug__" : Str)) = false ∧ UFn X x (spOf T f) := by
  unfold Stat.user at h
  split at h
  · rename_i hc
    obtain ⟨h1, a, fd, ps, h2, h3, h4, h5⟩ := g.fns x f h
    refine ⟨g.glob hc, h1, ⟨k, a, fd, ps, h2, ?_, h3, h4, h5⟩⟩
    exact g.room.mono (Nat.le_add_right _ _)
  · cases h
theorem Good.units (g : Good S T k X) : X.A.units + 65 < cLine := room_units g.room
theorem bname_eq {x : Str} {b : BN} (h : bnames.lookup x = some b) : x = (match b with
    | .len => "len" | .range => "range" | .tuple => "tuple" | .int => "int" | .isinstance => "isinstance" | .all => "all" | .any => "any" | .sorted => "sorted" | .enumerate => "enumerate" | .list => "list" | .set => "set" | .zip => "zip"
    | .sum => "sum" | .min => "min" | .max => "max" | .abs => "abs" | .str => "str" | .bool => "bool" : Str) := by
  have hm := PySem.mem_of_lookup h
  unfold bnames at hm
  simp only [List.mem_cons, Prod.mk.injEq, List.not_mem_nil, or_false] at hm
  rcases hm with h | h | h | h | h | h | h | h | h | h | h | h | h | h | h | h | h | h <;> (obtain ⟨rfl, rfl⟩ := h; rfl)
/-- a block's context -/
theorem Good.blk (g : Good S T k X) {scope : Scope} (hb : blkC S.N S.sc scope (ownOf S.N scope) = true) (s : Shared) (H : Hp) (C : Addr) (cl : List (Str × Addr)) (fp : List Addr) : Good (S.into scope) T k (X.blk s H scope (compEnvC scope cl C X.env) fp) where
  N := g.N
  nd := g.nd
  nb := g.nb
  sc := by show relS scope X.env.scope = relS scope S.sc; rw [g.sc]
  calm := g.calm
  room := g.room
  tab := g.tab
  fns := g.fns
  blt := g.blt
  st := fun x hx hk => by
    have ok := blkOk_by hb
    have hx : x ∈ (ownOf S.N scope).map (·.1) := hx
    obtain ⟨p, hp, rfl⟩ := List.mem_map.mp hx
    unfold ownOf at hp
    obtain ⟨⟨n, kd⟩, h1, h2⟩ := List.mem_filterMap.mp hp
    dsimp only at h2
    split at h2
    · rename_i hc
      obtain ⟨i, _, rfl⟩ := Option.map_eq_some_iff.mp h2
      have hl := ok.uniq _ h1
      dsimp only at hl ⊢
      simp only [Bool.and_eq_true, Bool.or_eq_true, beq_iff_eq] at hc
      rcases hc.1 with rfl | rfl
      · right
        exact lookup_relS_keep (by decide) hl
      · left
        show (scope.names.lookup n == some .cell) = true
        rw [hl]; rfl
    · cases h2
  xe := rfl
/-- what a caller asks, the callee's promise asks it too -/
theorem spOf_wk {T T' : TL} (sub : ∀ q ∈ T, q ∈ T') (back : ∀ {P F F' H H' : Hp}, Rel T' none P F H [] [] → Le P F F' → Rel T none P F' H' [] [] → Rel T' none P F' H' [] []) {f : Fn} {vs : List V} {H : Hp} {Q : VK} {E : XK} (h : spOf T' f vs H Q E) : spOf T f vs H Q E := by
  by_cases hio : f.io = true
  · have h : spIO T' f.sem vs H Q E := by unfold spOf at h; rw [if_pos hio] at h; exact h
    show (if f.io then spIO T f.sem else spP T f.sem) vs H Q E
    rw [if_pos hio]
    obtain ⟨P, F, a, us, xs, vr, ds, r, ys, h1, h2, h3, h4, h5, R, h6, h7, h8, k⟩ := h
    exact ⟨P, F, a, us, xs, vr, ds, r, ys, h1, h2, h3, h4, h5, R.wk sub, h6, h7, h8, fun v H' F' us' l R' => k v H' F' us' l (back R l R')⟩
  · have h : spP T' f.sem vs H Q E := by unfold spOf at h; rw [if_neg hio] at h; exact h
    show (if f.io then spIO T f.sem else spP T f.sem) vs H Q E
    rw [if_neg hio]
    obtain ⟨P, F, ds, r, o, R, h6, h7, h8, k⟩ := h
    exact ⟨P, F, ds, r, o, R.wk sub, h6, h7, h8, fun v H' F' l R' => k v H' F' l (back R l R')⟩
theorem spOf_cons {T : TL} {cg Pg : Addr} {f : Fn} {vs : List V} {H : Hp} {Q : VK} {E : XK} (h : spOf ((Pg, some cg) :: T) f vs H Q E) : spOf T f vs H Q E :=
  spOf_wk (fun q hq => List.mem_cons_of_mem _ hq) (fun {P F F' H H'} R l R' => ⟨R'.fh, R'.ph, R'.len, R'.ent, R'.dist, ⟨fun q hq => by
    rcases List.mem_cons.mp hq with rfl | hq
    · have kd := ((R.tabs.one _ List.mem_cons_self).2 cg rfl).mono l.up
      exact ⟨R'.tabs.all _ _ kd, fun d e => by cases e; exact kd⟩
    · exact R'.tabs.one q hq, R'.tabs.all⟩, R'.ptab, R'.ftab⟩) h
theorem FnOk.wk {P : Program} {w : World} {K : PySem.W.Frag} {mg : Str → Option Value} {base : Heap} {CX : CXT} {k : Nat} {a : Addr} {fd : FuncData} {ps : List Str} {sp sp' : Sp} (h : FnOk P w K mg base CX k a fd ps sp) (i : ∀ vs H Q E, sp' vs H Q E → sp vs H Q E) : FnOk P w K mg base CX k a fd ps sp' :=
  ⟨fun vs H Q E z => h.len vs H Q E (i _ _ _ _ z), fun A outer s H args us vs Q E hr e b v z => h.run A outer s H args us vs Q E hr e b v (i _ _ _ _ z)⟩
/-- the context of a generator expression's body -/
theorem Good.gen (g : Good S T k X) {d : Nat} (hd : S.dep = d + 1) {scope : Scope} (hb : blkC S.N S.sc scope (ownOf S.N scope) = true) (hg : genC scope = true) (A : Around) (s : Shared) (H : Hp) (cl : List (Str × Addr)) (C cg Pg : Addr) (fp : List Addr)
    (hr : Room (k + 8 * d) (A.deeper (genEnv scope cl C (.ref cg) builtinsNs X.env))) : Good (S.gen scope) ((Pg, some cg) :: T) k (genCx X A s H (genEnv scope cl C (.ref cg) builtinsNs X.env) fp) where
  N := g.N
  nd := g.nd
  nb := g.nb
  sc := rfl
  calm := g.calm
  room := by show Room (k + 8 * (S.dep - 1)) _; rw [hd]; exact hr
  tab := by
    obtain ⟨c, Pt, oc, h, _, _⟩ := g.tab
    refine ⟨cg, Pg, some cg, .inr ⟨rfl, ?_⟩, List.mem_cons_self, rfl⟩
    rcases h with h | ⟨_, h⟩
    · exact ⟨_, _, h⟩
    · exact h
  fns := fun x f e => by
    obtain ⟨h1, a, fd, ps, h2, h3, h4, h5⟩ := g.fns x f e
    exact ⟨h1, a, fd, ps, FnOk.wk h2 fun vs H Q E z => spOf_cons z, h3, h4, h5⟩
  blt := g.blt
  st := fun x hx hk => by
    rcases hk with hk | hk
    · exact .inr hk
    · left
      show (scope.names.lookup x == some .cell) = true
      rw [show scope.names.lookup x = some .cell from hk]; rfl
  xe := rfl
theorem Good.starred (e : Expr) (es : List Expr) (env : PySem.Env) (h : match e with | .Starred _ _ => False | _ => True) : starEach (e :: es) env = (false, eval e env) :: starEach es env := by
  cases e <;> first | rfl | exact h.elim
end
end LH
end

section
set_option Elab.async false
set_option linter.all false
set_option maxRecDepth 100000
set_option maxHeartbeats 4000000
/-! The translation is sound: expressions. -/
namespace LH
open PySem PySem.Spec L2
def isStar : Expr → Bool
  | .Starred _ _ => true
  | _ => false
theorem star_cons {e : Expr} {es : List Expr} {env : PySem.Env} (h : isStar e = false) : starEach (e :: es) env = (false, eval e env) :: starEach es env := by
  cases e <;> first | rfl | cases h
theorem base_plain {o : Expr} {x : Str} {env : PySem.Env} {w : Sem Value} (h : notCall o = true) : attributeBase o x env w = w := by
  cases o <;> first | rfl | cases h
theorem plain_of {n : Nat} {S : Stat} {e : Expr} {t : ME} (h : trE n S e = some t) : isStar e = false ∧ notSetE e = true ∧ notSlice e = true := by
  cases n with
  | zero => unfold trE at h; cases h
  | succ n => cases e <;> first | exact ⟨rfl, rfl, rfl⟩ | (unfold trE at h; cases h)
theorem back_plain {pos : Pos} : ∀ {es : List Expr} {env : PySem.Env}, (∀ e ∈ es, isStar e = false) → (backTo pos (starEach es env)).any (·.1) = false
  | [], _, _ => rfl
  | e :: es, env, h => by
    have ih := back_plain (pos := pos) (env := env) fun x hx => h x (List.mem_cons_of_mem _ hx)
    rw [star_cons (h e List.mem_cons_self)]
    cases es with
    | nil => rfl
    | cons e2 es =>
      first
        | (simp only [backTo, List.any_cons] at ih ⊢; simpa using ih)
        | (unfold backTo at ih ⊢; simpa using ih)
theorem fold_plain {e : Expr} {env : PySem.Env} (h : notSetE e = true) (x : Value) : foldedSetIterable e env x = pure x := by
  cases e <;> first | rfl | cases h
/-- what is known for less fuel -/
structure Snd (n : Nat) : Prop where
  b : ∀ {S : Stat} {T : TL} {k : Nat} {X : Cx} {B : Option Addr} {a : Expr} {ops : List CmpOp} {bs : List Expr} {pos : Pos} {t : ME}, Good S T k X → trE n S (.Compare a ops bs pos) = some t → Both X T B (.Compare a ops bs pos) t
  e : ∀ {S : Stat} {T : TL} {k : Nat} {X : Cx} {B : Option Addr} {e : Expr} {t : ME}, Good S T k X → trE n S e = some t → PE X e (rdE T B t)
  t : ∀ {S : Stat} {T : TL} {k : Nat} {X : Cx} {B : Option Addr} {e : Expr} {t : MT}, Good S T k X → trT n S e = some t → PT X e (rdT T B t)
  l : ∀ {S : Stat} {T : TL} {k : Nat} {X : Cx} {B : Option Addr} {es : List Expr} {ts : List ME}, Good S T k X → trL n S es = some ts → PA X es (rdA T B ts) ∧ Paired (fun e t => PE X e (rdE T B t)) es ts ∧ ∀ e ∈ es, isStar e = false
  tl : ∀ {S : Stat} {T : TL} {k : Nat} {X : Cx} {B : Option Addr} {es : List Expr} {ts : List MT}, Good S T k X → trTL n S es = some ts → Paired (fun e t => PT X e (rdT T B t)) es ts
  o : ∀ {S : Stat} {T : TL} {k : Nat} {X : Cx} {B : Option Addr} {e : Option Expr} {t : Option ME}, Good S T k X → trO n S e = some t → PO X e (rdO T B t)
  i : ∀ {S : Stat} {T : TL} {k : Nat} {X : Cx} {B : Option Addr} {tg e : Expr} {t : MI}, Good S T k X → trI n S (isTupE tg) e = some t → PI X tg e (rdI T B t) ∧ notSetE e = true
  gen : ∀ {S : Stat} {T : TL} {k : Nat} {X : Cx} {B : Option Addr} {gk : GK} {e : Expr} {w : MW}, Good S T k X → trGen n S gk e = some w → ∃ elt tg iter ifs cs scope gpos own it g mt cls dE, e = .GeneratorExp elt (⟨tg, iter, ifs, 0⟩ :: cs) scope gpos ∧ w = dGen gk (own.map (·.2)) dE it g mt cls ∧ GenOk (k + 8 * (S.dep - 1)) X T B scope own tg iter ifs cs elt it g mt cls dE
  eat : ∀ {S : Stat} {T : TL} {k : Nat} {X : Cx} {B : Option Addr} {e : Expr} {t : ME} {b : BN} {f : Str} {ck : CK} {p pos : Pos}, Good S T k X → S.built f = some b → eat1 b = some ck → trEat n S ck e = some t → PE X (.Call (.Name f p) [e] [] pos) (rdE T B t)
  g : ∀ {S : Stat} {T : TL} {k : Nat} {X : Cx} {B : Option Addr} {e : Expr} {t : MG}, Good S T k X → trG n S e = some t → PG X e (rdG T B (tgOf n S e) t) ∧ isStar e = false
  gl : ∀ {S : Stat} {T : TL} {k : Nat} {X : Cx} {B : Option Addr} {es : List Expr} {ts : List MG}, Good S T k X → trGL n S es = some ts → PGs X es (rdGs T B (tgsOf n S es) ts) ∧ (assignEach es X.env).length = ts.length ∧ (assignEach es X.env).findIdx? (·.1) = none
  cl : ∀ {S : Stat} {T : TL} {k : Nat} {X : Cx} {B : Option Addr} {cs : List Comprehension} {cls : List Cl}, Good S T k X → trCl n S cs = some cls → ClsOk T B X cs cls
  c : ∀ {S : Stat} {T : TL} {k : Nat} {X : Cx} {B : Option Addr} {elt : Expr} {gens : List Comprehension} {scope : Scope} {ow : List Nat} {te : ME} {it : MI} {g : MG} {mt : MT} {cls : List Cl}, Good S T k X → trC n S false elt gens scope = some (ow, te, it, g, mt, cls) →
    ∃ tg iter ifs cs, gens = ⟨tg, iter, ifs, 0⟩ :: cs ∧ ow = (ownOf S.N scope).map (·.2) ∧ PI X tg iter (rdI T B it) ∧ notSetE iter = true ∧ BlkOk X.N X.env.scope scope (ownOf S.N scope) ∧ BlkOf X T B scope (ownOf S.N scope) tg ifs cs elt g mt cls te
  cg : ∀ {S : Stat} {T : TL} {k : Nat} {X : Cx} {B : Option Addr} {elt : Expr} {gens : List Comprehension} {scope : Scope} {ow : List Nat} {te : ME} {it : MI} {g : MG} {mt : MT} {cls : List Cl}, Good S T k X → (S.dep == 0) = false → trC n S true elt gens scope = some (ow, te, it, g, mt, cls) →
    ∃ tg iter ifs cs, gens = ⟨tg, iter, ifs, 0⟩ :: cs ∧ ow = (ownOf S.N scope).map (·.2) ∧ GenOk (k + 8 * (S.dep - 1)) X T B scope (ownOf S.N scope) tg iter ifs cs elt it g mt cls te
theorem snd0 : Snd 0 where
  b := fun _ h => by unfold trE at h; cases h
  e := fun _ h => by unfold trE at h; cases h
  t := fun _ h => by unfold trT at h; cases h
  l := fun _ h => by unfold trL at h; cases h
  tl := fun _ h => by unfold trTL at h; cases h
  o := fun _ h => by unfold trO at h; cases h
  i := fun _ h => by unfold trI at h; cases h
  gen := fun _ h => by unfold trGen at h; cases h
  eat := fun _ _ _ h => by unfold trEat at h; cases h
  g := fun _ h => by unfold trG at h; cases h
  gl := fun _ h => by unfold trGL at h; cases h
  cl := fun _ h => by unfold trCl at h; cases h
  c := fun _ h => by unfold trC at h; cases h
  cg := fun _ _ h => by unfold trC at h; cases h
section
variable {n : Nat} {S : Stat} {T : TL} {k : Nat} {X : Cx} {B : Option Addr}
theorem snd_l (s : Snd n) {es : List Expr} {ts : List ME} (g : Good S T k X) (h : trL (n + 1) S es = some ts) : PA X es (rdA T B ts) ∧ Paired (fun e t => PE X e (rdE T B t)) es ts ∧ ∀ e ∈ es, isStar e = false := by
  cases es with
  | nil =>
    unfold trL at h
    cases h
    exact ⟨pa_dNil, .nil, fun e he => by cases he⟩
  | cons e es =>
    unfold trL at h
    split at h
    · rename_i t r h1 h2
      cases h
      obtain ⟨a1, a2, a3⟩ := s.l (B := B) g h2
      have hp := (plain_of h1).1
      exact ⟨pa_dCons (s.e g h1) a1 (star_cons hp), .cons (s.e g h1) a2, fun x hx => (List.mem_cons.mp hx).elim (fun z => z ▸ hp) (a3 x)⟩
    · cases h
theorem snd_tl (s : Snd n) {es : List Expr} {ts : List MT} (g : Good S T k X) (h : trTL (n + 1) S es = some ts) : Paired (fun e t => PT X e (rdT T B t)) es ts := by
  cases es with
  | nil =>
    unfold trTL at h
    cases h
    exact .nil
  | cons e es =>
    unfold trTL at h
    split at h
    · rename_i t r h1 h2
      cases h
      exact .cons (s.t g h1) (s.tl g h2)
    · cases h
theorem snd_o (s : Snd n) {e : Option Expr} {t : Option ME} (g : Good S T k X) (h : trO (n + 1) S e = some t) : PO X e (rdO T B t) := by
  cases e with
  | none =>
    unfold trO at h
    cases h
    exact po_dNone
  | some e =>
    unfold trO at h
    obtain ⟨t', h1, rfl⟩ := Option.map_eq_some_iff.mp h
    exact po_dSome (s.e g h1)
theorem snd_g (s : Snd n) {e : Expr} {t : MG} (g : Good S T k X) (h : trG (n + 1) S e = some t) : PG X e (rdG T B (tgOf (n + 1) S e) t) ∧ isStar e = false := by
  unfold trG at h
  split at h
  · rename_i x p
    obtain ⟨i, h1, rfl⟩ := Option.map_eq_some_iff.mp h
    obtain ⟨a1, a2, a3⟩ := g.loc h1
    have e1 : tgOf (n + 1) S (.Name x p) = [i] := by
      unfold tgOf
      show (match S.loc x with | some i => [i] | none => []) = [i]
      rw [h1]
    rw [e1]
    exact ⟨pg_dName (by rw [g.N]; exact g.nd) a1 a2 a3, rfl⟩
  · rename_i l kk p
    obtain ⟨gs, h1, rfl⟩ := Option.map_eq_some_iff.mp h
    obtain ⟨a1, a2, a3⟩ := s.gl (B := B) g h1
    have e1 : tgOf (n + 1) S (.Tuple l kk p) = tgsOf n S l := by unfold tgOf; rfl
    rw [e1]
    exact ⟨pg_dTup g.calm a1 a2 a3, rfl⟩
  · cases h
theorem asg_cons {e : Expr} {es : List Expr} {env : PySem.Env} (h : isStar e = false) : ∃ b, assignEach (e :: es) env = (false, assign e env) :: b ∧ b = assignEach es env := by
  cases e <;> first | exact ⟨_, rfl, rfl⟩ | cases h
theorem snd_gl (s : Snd n) {es : List Expr} {ts : List MG} (g : Good S T k X) (h : trGL (n + 1) S es = some ts) : PGs X es (rdGs T B (tgsOf (n + 1) S es) ts) ∧ (assignEach es X.env).length = ts.length ∧ (assignEach es X.env).findIdx? (·.1) = none := by
  cases es with
  | nil =>
    unfold trGL at h
    cases h
    exact ⟨pgs_dNil, rfl, rfl⟩
  | cons e es =>
    unfold trGL at h
    split at h
    · rename_i t r h1 h2
      cases h
      obtain ⟨a1, a2⟩ := s.g (B := B) g h1
      obtain ⟨b1, b2, b3⟩ := s.gl (B := B) g h2
      obtain ⟨b, c1, c2⟩ := asg_cons (es := es) (env := X.env) a2
      have e1 : tgsOf (n + 1) S (e :: es) = tgOf n S e ++ tgsOf n S es := rfl
      rw [e1]
      refine ⟨pgs_dCons a1 b1 (by rw [c1, c2]; rfl), by rw [c1, c2, List.length_cons, b2]; rfl, ?_⟩
      rw [c1, c2, List.findIdx?_cons, b3]
      rfl
    · cases h
theorem pts_nil' : PTs X [] (rdT T B fun ρ => some (true, ρ)) := PTs.imp pts_nil fun σ H Q h => by
  obtain ⟨P, F, ρ, kk, ρ', R, ev, q⟩ := h
  cases ev
  exact q H F (Le.refl _ _) R
theorem snd_cmp (s : Snd n) {a : Expr} {ops : List CmpOp} {bs : List Expr} {pos : Pos} {t : ME} (g : Good S T k X) (h : trE (n + 1) S (.Compare a ops bs pos) = some t) : Both X T B (.Compare a ops bs pos) t := by
  unfold trE at h
  split at h <;> rename_i heq <;> first | (cases heq; done) | skip
  all_goals first | (injection heq with x1 x2 x3 x4; done) | skip
  · injection heq with x1 x2 x3 x4
    subst x1 x2 x3 x4
    obtain ⟨ta, h1, rfl⟩ := Option.map_eq_some_iff.mp h
    exact both_isN (s.e g h1)
  · injection heq with x1 x2 x3 x4
    subst x1 x2 x3 x4
    obtain ⟨ta, h1, rfl⟩ := Option.map_eq_some_iff.mp h
    exact both_notN (s.e g h1)
  · injection heq with x1 x2 x3 x4
    subst x1 x2 x3 x4
    obtain ⟨ta, h1, rfl⟩ := Option.map_eq_some_iff.mp h
    exact both_isB (s.e g h1)
  · injection heq with x1 x2 x3 x4
    subst x1 x2 x3 x4
    obtain ⟨ta, h1, rfl⟩ := Option.map_eq_some_iff.mp h
    exact both_notB (s.e g h1)
  · injection heq with x1 x2 x3 x4
    subst x1 x2 x3 x4
    split at h
    · rename_i ta tb h1 h2
      cases h
      exact both_in g.units false (plain_of h2).2.1 (s.e g h1) (s.e g h2)
    · cases h
  · injection heq with x1 x2 x3 x4
    subst x1 x2 x3 x4
    split at h
    · rename_i ta tb h1 h2
      cases h
      exact both_in g.units true (plain_of h2).2.1 (s.e g h1) (s.e g h2)
    · cases h
  · injection heq with x1 x2 x3 x4
    subst x1 x2 x3 x4
    split at h
    · rename_i c ta tb h1 h2 h3
      cases h
      obtain ⟨rfl, m⟩ := mark_of h1
      exact both_cmp g.units c (m _) (s.e g h2) (s.e g h3)
    · cases h
  · injection heq with x1 x2 x3 x4
    subst x1 x2 x3 x4
    split at h
    · rename_i c c' ta tb tc h1 h2 h3 h4 h5
      cases h
      exact both_chain g.units h1 h2 (s.e g h3) (s.e g h4) (s.e g h5)
    · cases h
  · cases h
theorem snd_t (s : Snd n) {e : Expr} {t : MT} (g : Good S T k X) (h : trT (n + 1) S e = some t) : PT X e (rdT T B t) := by
  unfold trT at h
  split at h
  · obtain ⟨ta, h1, rfl⟩ := Option.map_eq_some_iff.mp h
    exact pt_dNot (s.t g h1)
  · obtain ⟨ts, h1, h2⟩ := Option.bind_eq_some_iff.mp h
    exact (pw_all (s.tl g h1) h2).pt
  · obtain ⟨ts, h1, h2⟩ := Option.bind_eq_some_iff.mp h
    exact (pw_any (s.tl g h1) h2).pt
  · obtain ⟨ta, h1, rfl⟩ := Option.map_eq_some_iff.mp h
    exact (s.b g h1).pt
  · cases h
  · rename_i n1 n2 n3 n4 n5
    obtain ⟨ta, h1, rfl⟩ := Option.map_eq_some_iff.mp h
    refine pt_dTru ?_ (s.e g h1)
    cases e with
    | UnaryOp op x p => cases op <;> first | rfl | exact (n1 _ _ rfl).elim
    | BoolOp op x p => cases op <;> first | exact (n2 _ _ rfl).elim | exact (n3 _ _ rfl).elim
    | IfExp a b c p => exact (n5 _ _ _ _ rfl).elim
    | Compare a b c p => exact (n4 _ _ _ _ rfl).elim
    | _ => rfl
theorem glb (g : Good S T k X) {f : Str} {b : BN} (h : S.built f = some b) {nm : String} (e : ∀ x, bnames.lookup x = some b → x = (nm : Str)) : f = (nm : Str) ∧ Gl X (nm : Str) ∧ X.mg (nm : Str) = none := by
  obtain ⟨h1, h2, h3⟩ := g.built h
  obtain rfl := e f h3
  exact ⟨rfl, h1, h2⟩
theorem one_arg {a : Expr} {da : ME} (ha : PE X a (rdE T B da)) (h : isStar a = false) : PA X [a] (rdA T B [da]) := pa_dCons ha pa_dNil (star_cons h)
theorem two_args {a b : Expr} {da db : ME} (ha : PE X a (rdE T B da)) (h : isStar a = false) (hb : PE X b (rdE T B db)) (h2 : isStar b = false) : PA X [a, b] (rdA T B [da, db]) := pa_dCons ha (one_arg hb h2) (star_cons h)
theorem back_one {pos : Pos} {b : Expr} {env : PySem.Env} (h : isStar b = false) : (backTo pos (starEach [b] env)).any (·.1) = false := back_plain fun x hx => by
  rw [List.mem_singleton] at hx
  rw [hx]; exact h
/-- what the translation of a comprehension's parts tells -/
theorem trC_some {gen : Bool} {elt : Expr} {gens : List Comprehension} {scope : Scope} {ow : List Nat} {te : ME} {it : MI} {gg : MG} {mt : MT} {cls : List Cl} (h : trC (n + 1) S gen elt gens scope = some (ow, te, it, gg, mt, cls)) :
    ∃ tg iter ifs cs mts, gens = ⟨tg, iter, ifs, 0⟩ :: cs ∧ ow = (ownOf S.N scope).map (·.2) ∧ L2.blkC S.N S.sc scope (ownOf S.N scope) = true ∧ (gen = true → genC scope = true ∧ notLst iter = true) ∧ trI n S (isTupE tg) iter = some it ∧
      trG n (if gen then S.gen scope else S.into scope) tg = some gg ∧ trTL n (if gen then S.gen scope else S.into scope) ifs = some mts ∧ mt = testAll mts ∧ trCl n (if gen then S.gen scope else S.into scope) cs = some cls ∧ trE n (if gen then S.gen scope else S.into scope) elt = some te ∧
      (∀ i ∈ tgOf n (if gen then S.gen scope else S.into scope) tg, i ∈ ow) ∧ ∀ c ∈ cls, ∀ i ∈ c.ts, i ∈ ow := by
  unfold trC at h
  split at h
  · cases h
  · rename_i c cs
    dsimp only at h
    generalize (if gen = true then S.gen scope else S.into scope) = Bs at h ⊢
    split at h
    · rename_i hc
      split at h
      · rename_i it' g' mts r te' h1 h2 h3 h4 h5
        split at h
        · rename_i hq
          cases h
          obtain ⟨tg, iter, ifs, ia⟩ := c
          simp only [Bool.and_eq_true, beq_iff_eq, List.all_eq_true, List.contains_iff_mem] at hq
          obtain ⟨⟨q1, q2⟩, q3⟩ := hq
          simp only [Bool.and_eq_true, Bool.or_eq_true, Bool.not_eq_true'] at hc
          obtain ⟨c1, c2⟩ := hc
          obtain rfl : ia = 0 := q1
          refine ⟨tg, iter, ifs, cs, mts, rfl, rfl, c1, fun hg => ?_, h1, h2, h3, rfl, h4, h5, q2, q3⟩
          rcases c2 with c2 | c2
          · rw [hg] at c2; cases c2
          · exact c2
        · cases h
      · cases h
    · cases h
theorem tests_false {Q : Bool → Shared → Prop} : ∀ (cs : List Expr) (s : Shared), Q false s → wpAny (model X.prog X.w) X.A (forIn cs false fun c r => if r = true then do let ok ← isTrue c X.env (eval c X.env); pure (ForInStep.yield ok) else pure (ForInStep.yield r)) Q X.xe s
  | [], s, q => wpAny_pure q
  | c :: cs, s, q => by
    simp only [List.forIn_cons, Bool.false_eq_true, if_false]
    exact wpAny_bind (wpAny_pure (tests_false cs s q))
theorem pts_cons {c : Expr} {cs : List Expr} {t1 t2 : TT} (h : PT X c t1) (r : PTs X cs t2) : PTs X (c :: cs) (fun σ H Q => t1 σ H fun b H' => if b then t2 σ H' Q else Q false H') := ⟨fun pins s σ H Q I hw => by
  simp only [List.forIn_cons, if_true]
  refine wpAny_bind (wpAny_bind (wpAny_mono (h.run pins s σ H _ I hw) (fun b s' hb => wpAny_pure ?_) fun _ _ x => x))
  obtain ⟨H', I', q⟩ := hb
  cases b
  · exact tests_false cs s' ⟨H', I', q⟩
  · exact r.run pins s' σ H' Q I' q⟩
theorem pts_all : ∀ {es : List Expr} {ts : List MT}, Paired (fun e t => PT X e (rdT T B t)) es ts → PTs X es (rdT T B (testAll ts))
  | _, _, .nil => pts_nil'
  | _, _, .cons h .nil => pts_one h
  | _, _, .cons (b := t1) h (.cons (b := t2) (l₂ := ts) h2 r) => by
    refine PTs.imp (pts_cons h (pts_all (.cons h2 r))) fun σ H Q z => ?_
    obtain ⟨P, F, ρ, k, ρ', R, ev, z⟩ := z
    have ev : tAnd t1 (testAll (t2 :: ts)) ρ = some (k, ρ') := ev
    unfold tAnd at ev
    split at ev
    · cases ev
    · rename_i ρ1 e1
      cases ev
      exact ⟨P, F, ρ, false, _, R, e1, fun H1 F1 l1 R1 => iteF <| z H1 F1 l1 R1⟩
    · rename_i ρ1 e1
      exact ⟨P, F, ρ, true, ρ1, R, e1, fun H1 F1 l1 R1 => iteT <| ⟨P, F1, ρ1, k, ρ', R1, ev, fun H2 F2 l2 R2 => z H2 F2 (l1.trans l2) R2⟩⟩
theorem snd_gen (s : Snd n) {gk : GK} {e : Expr} {w : MW} (g : Good S T k X) (h : trGen (n + 1) S gk e = some w) : ∃ elt tg iter ifs cs scope gpos own it g mt cls dE, e = .GeneratorExp elt (⟨tg, iter, ifs, 0⟩ :: cs) scope gpos ∧ w = dGen gk (own.map (·.2)) dE it g mt cls ∧ GenOk (k + 8 * (S.dep - 1)) X T B scope own tg iter ifs cs elt it g mt cls dE := by
  cases e <;> first | (unfold trGen at h; cases h; done) | skip
  rename_i elt gens scope gpos
  unfold trGen at h
  split at h
  · cases h
  · rename_i ht
    have ht : (S.dep == 0) = false := by simpa using ht
    split at h
    · rename_i ow te it gg mt cls h1
      cases h
      obtain ⟨tg, iter, ifs, cs, rfl, rfl, G⟩ := s.cg (B := B) g ht h1
      exact ⟨_, _, _, _, _, _, _, _, _, _, _, _, _, rfl, rfl, G⟩
    · cases h
theorem snd_cl (s : Snd n) {cs : List Comprehension} {cls : List Cl} (g : Good S T k X) (h : trCl (n + 1) S cs = some cls) : ClsOk T B X cs cls := by
  cases cs with
  | nil =>
    unfold trCl at h
    cases h
    exact .nil
  | cons c cs =>
    unfold trCl at h
    split at h
    · rename_i gg it ifs r h1 h2 h3 h4
      split at h
      · rename_i ha
        have ha : c.is_async = 0 := by simpa using ha
        cases h
        have ih := s.cl (B := B) g h4
        obtain ⟨i1, i2⟩ := s.i (B := B) g h2
        refine .cons ⟨⟨tgOf n S c.target, fun j hj => List.mem_append_left _ hj, (s.g g h1).1⟩, i1, pts_all (s.tl g h3), fold_plain i2, by assumption⟩ (fun c' hc j hj => List.mem_append_right _ ?_) ih
        cases ih with
        | nil => cases hc
        | cons a b d =>
          rcases List.mem_cons.mp hc with rfl | hc
          · exact hj
          · exact b _ hc j hj
      · cases h
    · cases h
theorem snd_e (s : Snd n) {e : Expr} {t : ME} (g : Good S T k X) (h : trE (n + 1) S e = some t) : PE X e (rdE T B t) := by
  have h0 := h
  unfold trE at h
  split at h
  · cases h; exact pe_dInt
  · cases h; exact pe_dBool
  · cases h; exact pe_dNone
  · cases h; exact pe_dStr
  · obtain ⟨i, h1, rfl⟩ := Option.map_eq_some_iff.mp h
    obtain ⟨a1, a2, a3, a4⟩ := g.slot h1
    exact pe_dVar a1 a2 a3 a4
  · split at h
    · rename_i f ta tb h1 h2 h3
      cases h
      exact pe_binOp h1 (s.e g h2) (s.e g h3)
    · cases h
  · obtain ⟨ta, h1, rfl⟩ := Option.map_eq_some_iff.mp h
    exact pe_dNeg (s.e g h1)
  · obtain ⟨ta, h1, rfl⟩ := Option.map_eq_some_iff.mp h
    exact pe_dNot (s.e g h1)
  · obtain ⟨ts, h1, h2⟩ := Option.bind_eq_some_iff.mp h
    exact pe_all (s.l g h1).2.1 h2
  · obtain ⟨ts, h1, h2⟩ := Option.bind_eq_some_iff.mp h
    exact pe_any (s.l g h1).2.1 h2
  iterate 8 exact (snd_cmp s g h0).pe
  · split at h
    · rename_i tc ta tb h1 h2 h3
      cases h
      exact pe_dIf (s.t g h1) (s.e g h2) (s.e g h3)
    · cases h
  · obtain ⟨ts, h1, rfl⟩ := Option.map_eq_some_iff.mp h
    exact pe_dTup (s.l g h1).1 (pe_tup (s.l g h1).1)
  · obtain ⟨ts, h1, rfl⟩ := Option.map_eq_some_iff.mp h
    exact PE.imp (pe_lst (s.l g h1).1) fun σ H Q h => rd_lst h
  · split at h
    · rename_i ta tl th h1 h2 h3
      cases h
      exact pe_dCut (s.e g h1) (s.o g h2) (s.o g h3)
    · cases h
  · split at h
    · rename_i ta tb h1 h2
      cases h
      exact pe_dIx (plain_of h2).2.2 (s.e g h1) (s.e g h2)
    · cases h
  · split at h
    · rename_i ow te it gg ifs cs h1
      cases h
      obtain ⟨tg, iter, ifs', cs', rfl, rfl, a1, a2, a3, a4⟩ := s.c (B := B) g h1
      exact pe_dComp g.calm (by rw [g.N]; exact g.nd) a1 a3 a4 (fold_plain a2)
    · cases h
  · split at h
    · rename_i hc
      rw [Bool.and_eq_true, beq_iff_eq] at hc
      obtain ⟨rfl, hl⟩ := hc
      obtain ⟨i, h1, rfl⟩ := Option.map_eq_some_iff.mp h
      obtain ⟨a1, a2, a3, a4⟩ := g.slot h1
      exact pe_dPop0 (pe_var a1 a2 a3 a4) hl
    · cases h
  · split at h
    · cases h
    · rename_i hl
      split at h
      · rename_i hm
        obtain rfl := eq_of_beq hm
        split at h
        · split at h
          · rename_i i ta h1 h2
            cases h
            obtain ⟨a1, a2, a3, a4⟩ := g.slot h1
            exact pe_dPop1 (pe_var a1 a2 a3 a4) (by simpa using hl) (star_cons (plain_of h2).1) (s.e g h2)
          · cases h
        · cases h
      · split at h
        · rename_i hm
          obtain rfl := eq_of_beq hm
          split at h
          · rename_i hn
            split at h
            · rename_i tb ta h1 h2
              cases h
              have hst := star_cons (es := []) (env := X.env) (plain_of h2).1
              exact pe_index g.units (s.e g h1) (pa_cons (s.e g h2) pa_nil hst) (base_plain hn) (by rw [hst]; rfl) (by simpa using hl) hst
            · cases h
          · cases h
        · cases h
  · rename_i f fp args kws cp
    split at h
    · rename_i fn hu
      obtain ⟨u1, u2, u3⟩ := g.user hu
      split at h
      · cases h
      · rename_i hk
        have hk : kws = [] := by simpa using hk
        subst hk
        split at h
        · rename_i hio
          split at h
          · split at h
            · rename_i i tr h1 h2
              cases h
              obtain ⟨a1, a2, a3, a4⟩ := g.slot h1
              have u3 : UFn X f (spIO T fn.sem) := by unfold spOf at u3; rw [if_pos hio] at u3; exact u3
              obtain ⟨b1, b2, b3⟩ := s.l (B := B) g h2
              exact pe_dCallIO u3 u1 u2 (pe_var a1 a2 a3 a4) b1 rfl (back_plain b3)
            · cases h
          · cases h
        · rename_i hio
          obtain ⟨ts, h1, rfl⟩ := Option.map_eq_some_iff.mp h
          have u3 : UFn X f (spP T fn.sem) := by unfold spOf at u3; rw [if_neg hio] at u3; exact u3
          obtain ⟨b1, b2, b3⟩ := s.l (B := B) g h1
          cases args with
          | nil =>
            cases n with
            | zero => unfold trL at h1; cases h1
            | succ n =>
              unfold trL at h1
              cases h1
              exact pe_dCall0 u3 u1 u2
          | cons e es => exact pe_dCall u3 u1 u2 b1 (star_cons (b3 e List.mem_cons_self)) (back_plain fun x hx => b3 x (List.mem_cons_of_mem _ hx))
    · split at h
      · rename_i hb
        obtain ⟨u1, u2, u3⟩ := g.built hb
        obtain rfl : f = ("len" : Str) := bname_eq u3
        obtain ⟨ta, h1, rfl⟩ := Option.map_eq_some_iff.mp h
        exact pe_dLen (star_cons (plain_of h1).1) (one_arg (s.e g h1) (plain_of h1).1) u1 u2
      · rename_i hb
        obtain ⟨u1, u2, u3⟩ := g.built hb
        obtain rfl : f = ("int" : Str) := bname_eq u3
        obtain ⟨ta, h1, rfl⟩ := Option.map_eq_some_iff.mp h
        exact pe_dInt1 (star_cons (plain_of h1).1) (one_arg (s.e g h1) (plain_of h1).1) u1 u2
      · rename_i hb
        obtain ⟨u1, u2, u3⟩ := g.built hb
        obtain rfl : f = ("abs" : Str) := bname_eq u3
        obtain ⟨ta, h1, rfl⟩ := Option.map_eq_some_iff.mp h
        exact pe_dAbs (star_cons (plain_of h1).1) (one_arg (s.e g h1) (plain_of h1).1) u1 u2
      · rename_i hb
        obtain ⟨u1, u2, u3⟩ := g.built hb
        obtain rfl : f = ("min" : Str) := bname_eq u3
        split at h
        · rename_i ta tb h1 h2
          cases h
          exact pe_dMin2 g.calm (star_cons (plain_of h1).1) (back_one (plain_of h2).1) (two_args (s.e g h1) (plain_of h1).1 (s.e g h2) (plain_of h2).1) u1 u2
        · cases h
      · rename_i hb
        obtain ⟨u1, u2, u3⟩ := g.built hb
        obtain rfl : f = ("max" : Str) := bname_eq u3
        split at h
        · rename_i ta tb h1 h2
          cases h
          exact pe_dMax2 g.calm (star_cons (plain_of h1).1) (back_one (plain_of h2).1) (two_args (s.e g h1) (plain_of h1).1 (s.e g h2) (plain_of h2).1) u1 u2
        · cases h
      · rename_i tn q hb
        obtain ⟨u1, u2, u3⟩ := g.built hb
        obtain rfl : f = ("isinstance" : Str) := bname_eq u3
        split at h
        · rename_i ty ta h1 h2
          cases h
          obtain ⟨bt, h3, h4⟩ := Option.bind_eq_some_iff.mp h1
          obtain ⟨v1, v2, v3⟩ := g.built h3
          have e : tn = Str.ofString (tyName ty) := by
            have e := bname_eq v3
            cases bt <;> first | (cases h4; done) | (cases h4; exact e)
          subst e
          exact pe_dIsI u1 u2 v1 v2 (star_cons (plain_of h2).1) rfl (s.e g h2)
        · cases h
      · rename_i hb
        obtain ⟨u1, u2, u3⟩ := g.built hb
        obtain rfl : f = ("any" : Str) := bname_eq u3
        obtain ⟨w, h1, rfl⟩ := Option.map_eq_some_iff.mp h
        obtain ⟨elt, tg, iter, ifs, cs, scope, gpos, own, it, gg, mt, cls, dE, e1, rfl, G⟩ := s.gen (B := B) g h1
        injection e1 with e1 e2 e3 e4
        subst e1 e2 e3 e4
        exact pe_dAnyG G rfl u1 u2
      · rename_i hb
        obtain ⟨u1, u2, u3⟩ := g.built hb
        obtain rfl : f = ("all" : Str) := bname_eq u3
        obtain ⟨w, h1, rfl⟩ := Option.map_eq_some_iff.mp h
        obtain ⟨elt, tg, iter, ifs, cs, scope, gpos, own, it, gg, mt, cls, dE, e1, rfl, G⟩ := s.gen (B := B) g h1
        injection e1 with e1 e2 e3 e4
        subst e1 e2 e3 e4
        exact pe_dAllG G rfl u1 u2
      · split at h
        · rename_i hb _ _ _ h1
          exact s.eat g (by assumption) h1 h
        · cases h
      · cases h
  · cases h
theorem snd_eat (s : Snd n) {e : Expr} {t : ME} {b : BN} {f : Str} {ck : CK} {p pos : Pos} (g : Good S T k X) (hb : S.built f = some b) (h1 : eat1 b = some ck) (h : trEat (n + 1) S ck e = some t) : PE X (.Call (.Name f p) [e] [] pos) (rdE T B t) := by
  obtain ⟨u1, u2, u3⟩ := g.built hb
  have hf := bname_eq u3
  unfold trEat at h
  split at h
  · split at h
    · cases b <;> first | (cases h1; done) | skip
      obtain rfl : f = ("tuple" : Str) := hf
      obtain ⟨w, h2, rfl⟩ := Option.map_eq_some_iff.mp h
      obtain ⟨elt, tg, iter, ifs, cs, scope, gpos, own, it, gg, mt, cls, dE, e1, rfl, G⟩ := s.gen (B := B) g h2
      injection e1 with e1 e2 e3 e4
      subst e1 e2 e3 e4
      exact pe_dTupleG G rfl u1 u2
    · cases b <;> first | (cases h1; done) | skip
      obtain rfl : f = ("sum" : Str) := hf
      obtain ⟨w, h2, rfl⟩ := Option.map_eq_some_iff.mp h
      obtain ⟨elt, tg, iter, ifs, cs, scope, gpos, own, it, gg, mt, cls, dE, e1, rfl, G⟩ := s.gen (B := B) g h2
      injection e1 with e1 e2 e3 e4
      subst e1 e2 e3 e4
      exact pe_dSumG G rfl u1 u2
    · cases h
  · split at h
    · cases b <;> first | (cases h1; done) | skip
      obtain rfl : f = ("tuple" : Str) := hf
      obtain ⟨ta, h2, rfl⟩ := Option.map_eq_some_iff.mp h
      exact pe_dTuple (star_cons (plain_of h2).1) (one_arg (s.e g h2) (plain_of h2).1) u1 u2
    · cases b <;> first | (cases h1; done) | skip
      obtain rfl : f = ("list" : Str) := hf
      obtain ⟨ta, h2, rfl⟩ := Option.map_eq_some_iff.mp h
      exact pe_dList (star_cons (plain_of h2).1) (one_arg (s.e g h2) (plain_of h2).1) u1 u2
    · cases b <;> first | (cases h1; done) | skip
      obtain rfl : f = ("sorted" : Str) := hf
      obtain ⟨ta, h2, rfl⟩ := Option.map_eq_some_iff.mp h
      exact pe_dSorted (star_cons (plain_of h2).1) (one_arg (s.e g h2) (plain_of h2).1) u1 u2
    · cases h
theorem snd_i (s : Snd n) {tg e : Expr} {t : MI} (g : Good S T k X) (h : trI (n + 1) S (isTupE tg) e = some t) : PI X tg e (rdI T B t) ∧ notSetE e = true := by
  unfold trI at h
  split at h
  · rename_i f p args q
    refine ⟨?_, rfl⟩
    split at h
    · rename_i hb
      obtain ⟨u1, u2, u3⟩ := g.built hb
      obtain rfl : f = ("range" : Str) := bname_eq u3
      obtain ⟨ta, h1, rfl⟩ := Option.map_eq_some_iff.mp h
      exact pi_mRng1 u1 u2 (one_arg (s.e g h1) (plain_of h1).1) (star_cons (plain_of h1).1)
    · rename_i hb
      obtain ⟨u1, u2, u3⟩ := g.built hb
      obtain rfl : f = ("range" : Str) := bname_eq u3
      split at h
      · rename_i ta tb h1 h2
        cases h
        exact pi_mRng2 u1 u2 (two_args (s.e g h1) (plain_of h1).1 (s.e g h2) (plain_of h2).1) (by rw [star_cons (plain_of h1).1, star_cons (plain_of h2).1]; rfl) (by rw [star_cons (plain_of h2).1]; rfl)
      · cases h
    · rename_i hb
      obtain ⟨u1, u2, u3⟩ := g.built hb
      obtain rfl : f = ("range" : Str) := bname_eq u3
      split at h
      · rename_i ta tb tc h1 h2 h3
        cases h
        refine pi_mRngD u1 u2 (pa_dCons (s.e g h1) (two_args (s.e g h2) (plain_of h2).1 (s.e g h3) (plain_of h3).1) (star_cons (plain_of h1).1)) (star_cons (plain_of h1).1) (back_plain fun x hx => ?_)
        rcases List.mem_cons.mp hx with rfl | hx
        · exact (plain_of h2).1
        · rw [List.mem_singleton.mp hx]; exact (plain_of h3).1
      · cases h
    · rename_i hb
      obtain ⟨u1, u2, u3⟩ := g.built hb
      obtain rfl : f = ("enumerate" : Str) := bname_eq u3
      split at h
      · rename_i ht
        obtain ⟨ta, h1, rfl⟩ := Option.map_eq_some_iff.mp h
        cases tg <;> first | (cases ht; done) | skip
        exact pi_mEnum u1 u2 (one_arg (s.e g h1) (plain_of h1).1) (star_cons (plain_of h1).1)
      · cases h
    · rename_i hb
      obtain ⟨u1, u2, u3⟩ := g.built hb
      obtain rfl : f = ("zip" : Str) := bname_eq u3
      split at h
      · rename_i ta tb h1 h2
        split at h
        · rename_i ht
          cases h
          cases tg <;> first | (cases ht; done) | skip
          exact pi_mZip u1 u2 (two_args (s.e g h1) (plain_of h1).1 (s.e g h2) (plain_of h2).1) (star_cons (plain_of h1).1) (back_one (plain_of h2).1)
        · cases h
      · cases h
    · obtain ⟨ta, h1, rfl⟩ := Option.map_eq_some_iff.mp h
      exact pi_mSeq (s.e g h1)
  · obtain ⟨ta, h1, rfl⟩ := Option.map_eq_some_iff.mp h
    exact ⟨pi_mSeq (s.e g h1), (plain_of h1).2.1⟩
theorem snd_c (s : Snd n) {elt : Expr} {gens : List Comprehension} {scope : Scope} {ow : List Nat} {te : ME} {it : MI} {gg : MG} {mt : MT} {cls : List Cl} (g : Good S T k X) (h : trC (n + 1) S false elt gens scope = some (ow, te, it, gg, mt, cls)) :
    ∃ tg iter ifs cs, gens = ⟨tg, iter, ifs, 0⟩ :: cs ∧ ow = (ownOf S.N scope).map (·.2) ∧ PI X tg iter (rdI T B it) ∧ notSetE iter = true ∧ BlkOk X.N X.env.scope scope (ownOf S.N scope) ∧ BlkOf X T B scope (ownOf S.N scope) tg ifs cs elt gg mt cls te := by
  obtain ⟨tg, iter, ifs, cs, mts, rfl, rfl, hb, _, h1, h2, h3, rfl, h4, h5, h6, h7⟩ := trC_some h
  obtain ⟨i1, i2⟩ := s.i (B := B) g h1
  refine ⟨tg, iter, ifs, cs, rfl, rfl, i1, i2, by rw [g.N, g.sc]; exact L2.blkOk_by hb, ⟨tgOf n (S.into scope) tg, h6, fun s1 H C cl fp => (s.g (g.blk hb s1 H C cl fp) h2).1⟩, fun s1 H C cl fp => pts_all (s.tl (g.blk hb s1 H C cl fp) h3), fun s1 H C cl fp => s.e (g.blk hb s1 H C cl fp) h5, fun s1 H C cl fp => s.cl (g.blk hb s1 H C cl fp) h4, h7⟩
theorem snd_cg (s : Snd n) {elt : Expr} {gens : List Comprehension} {scope : Scope} {ow : List Nat} {te : ME} {it : MI} {gg : MG} {mt : MT} {cls : List Cl} (g : Good S T k X) (ht : (S.dep == 0) = false) (h : trC (n + 1) S true elt gens scope = some (ow, te, it, gg, mt, cls)) :
    ∃ tg iter ifs cs, gens = ⟨tg, iter, ifs, 0⟩ :: cs ∧ ow = (ownOf S.N scope).map (·.2) ∧ GenOk (k + 8 * (S.dep - 1)) X T B scope (ownOf S.N scope) tg iter ifs cs elt it gg mt cls te := by
  obtain ⟨tg, iter, ifs, cs, mts, rfl, rfl, hb, hg, h1, h2, h3, rfl, h4, h5, h6, h7⟩ := trC_some h
  obtain ⟨hg1, hg2⟩ := hg rfl
  obtain ⟨i1, i2⟩ := s.i (B := B) g h1
  have h0 : S.dep ≠ 0 := by simpa using ht
  obtain ⟨d, hd⟩ : ∃ d, S.dep = d + 1 := ⟨S.dep - 1, by omega⟩
  have hr : Room (k + 8 * (S.dep - 1) + 8) X.A := g.room.mono (by omega)
  have hG := hg1
  unfold genC at hg1
  simp only [Bool.and_eq_true, Bool.not_eq_true', decide_eq_true_eq] at hg1
  obtain ⟨q1, q2⟩ := hg1
  refine ⟨tg, iter, ifs, cs, rfl, rfl, ⟨g.calm, by rw [g.N]; exact g.nd, hr, g.tab, i1, by rw [g.N, g.sc]; exact L2.blkOk_by hb, q1, q2, fold_plain i2, hg2,
    ⟨⟨tgOf n (S.gen scope) tg, h6, fun A s1 H cl C cg Pg fp r => (s.g (g.gen hd hb hG A s1 H cl C cg Pg fp (by rw [hd] at r; exact r)) h2).1⟩, fun A s1 H cl C cg Pg fp r => pts_all (s.tl (g.gen hd hb hG A s1 H cl C cg Pg fp (by rw [hd] at r; exact r)) h3), fun A s1 H cl C cg Pg fp r => s.e (g.gen hd hb hG A s1 H cl C cg Pg fp (by rw [hd] at r; exact r)) h5, fun A s1 H cl C cg Pg fp r => s.cl (g.gen hd hb hG A s1 H cl C cg Pg fp (by rw [hd] at r; exact r)) h4, h7⟩⟩⟩
end
theorem snd : ∀ n, Snd n
  | 0 => snd0
  | n + 1 => have s := snd n
    { b := snd_cmp s, e := snd_e s, t := snd_t s, l := snd_l s, tl := snd_tl s, o := snd_o s, i := snd_i s, gen := snd_gen s, eat := snd_eat s, g := snd_g s, gl := snd_gl s, cl := snd_cl s, c := snd_c s, cg := snd_cg s }
end LH
end

section
set_option Elab.async false
set_option linter.all false
set_option maxRecDepth 100000
set_option maxHeartbeats 4000000
/-! Which stores are swapped. -/
namespace LH
open PySem PySem.Spec L2
theorem sw_pair {x y : Str} {a b : Expr} {px py pt p2 : Pos} {kt k2} {env : PySem.Env} (hk : env.scope.kind = .function) (hx : env.scope.names.lookup x = some .local) (hy : env.scope.names.lookup y = some .local) (hl : (px.line == py.line) = true) (hxy : (x != y) = true)
    (ha : ∀ e p, a ≠ .Starred e p) (hb : ∀ e p, b ≠ .Starred e p) (hf : (foldedForSure 8 a && foldedForSure 8 b) = false) (hc : (constantsAlone 8 a && constantsAlone 8 b) = false) :
    swappedStores [.Tuple [.Name x px, .Name y py] kt pt] (.Tuple [a, b] k2 p2) env = pure (some [x, y]) := by
  have kx : env.kindOf x = some .local := hx
  have ky : env.kindOf y = some .local := hy
  have hb' : env.blockKind = .function := by unfold Env.blockKind; rw [hk]; rfl
  have hl' : (py.line == px.line) = true := by
    have := eq_of_beq hl
    rw [this]; exact beq_self_eq_true _
  have hne : x ≠ y := by simpa using hxy
  have hd : ([x, y] : List Str).eraseDups = [x, y] := by
    simp [List.eraseDups_cons, Ne.symm hne]
  unfold swappedStores
  simp only [hb', kx, ky, List.filterMap_cons, List.filterMap_nil, Expr.pos, List.head?_cons, Option.map_some, Option.getD_some, hl', beq_self_eq_true, Bool.and_self, if_true, List.length_cons, List.length_nil, hd, List.all_cons, List.all_nil, Bool.and_true, hf, hc, List.any_cons, List.any_nil, Bool.or_false]
  cases a <;> first | exact (ha _ _ rfl).elim | skip
  all_goals (cases b <;> first | exact (hb _ _ rfl).elim | rfl)
theorem sw_cell {x y : Str} {e : Expr} {px py pt : Pos} {kt} {env : PySem.Env} (h : env.scope.names.lookup x ≠ some .local ∨ env.scope.names.lookup y ≠ some .local) : swappedStores [.Tuple [.Name x px, .Name y py] kt pt] e env = pure none := by
  cases e <;> first | rfl | skip
  have h : (env.kindOf x == some .local) = false ∨ (env.kindOf y == some .local) = false := by
    rcases h with h | h
    · have h : env.kindOf x ≠ some .local := h
      exact .inl (by simpa using h)
    · have h : env.kindOf y ≠ some .local := h
      exact .inr (by simpa using h)
  unfold swappedStores
  rcases h with h | h
  all_goals
    simp only [List.filterMap_cons, List.filterMap_nil, Expr.pos, h, Bool.false_and, Bool.false_eq_true, if_false]
    repeat' (first | rfl | split)
    all_goals (exfalso; simp_all)
theorem sw_other {tg e : Expr} {env : PySem.Env} (h : (match tg, e with | .Tuple _ _ _, .Tuple _ _ _ => false | .List _ _, .Tuple _ _ _ => false | _, _ => true) = true) : swappedStores [tg] e env = pure none := by
  unfold swappedStores
  cases tg <;> first | rfl | (cases e <;> first | rfl | cases h)
end LH
end

section
set_option Elab.async false
set_option linter.all false
set_option maxRecDepth 100000
set_option maxHeartbeats 4000000
/-! The translation is sound: statements. -/
namespace LH
open PySem PySem.Spec L2
section
variable {X : Cx} {T : TL} {B : Option Addr} {a b c e : Expr} {da db dc : ME} {pos : Pos}
theorem ps_dPar {i j : Nat} {x y : Str} {px py pt : Pos} {kt k2 pt2} (hc : X.calm = true) (hN : X.N.Nodup) (hi : X.N[i]? = some x) (hj : X.N[j]? = some y) (hij : i ≠ j)
    (hx : X.env.scope.names.lookup x = some .local) (hy : X.env.scope.names.lookup y = some .local) (ha : PA X [a, b] (rdA T B [da, db]))
    (hw : swappedStores [.Tuple [.Name x px, .Name y py] kt pt] (.Tuple [a, b] k2 pt2) X.env = pure (some [x, y])) :
    PS X (.Assign [.Tuple [.Name x px, .Name y py] kt pt] (.Tuple [a, b] k2 pt2) pos) (rdS T B (sPar [i, j] [da, db])) := PS.imp (ps_par hc hN hi hj hij hx hy ha hw) fun D σ H h => by
  obtain ⟨P, F, ρ, fl, ρ', R, ev, k⟩ := h
  unfold sPar at ev
  split at ev
  · cases ev
  · rename_i rs ρ1 e1
    split at ev
    · cases ev
    · rename_i ds ρ2 e2
      split at ev
      · cases ev
      · rename_i ρ3 e3
        cases ev
        refine ⟨P, F, ρ, rs, ρ1, R, e1, fun vs H1 F1 l1 R1 q1 => ?_⟩
        obtain ⟨F2, l2, R2, rl, _⟩ := shares_ok R1 q1 e2
        have e3 : gEach [gName i, gName j] ds ρ2 = some ρ' := e3
        cases rl with
        | nil => cases e3
        | cons r1 rl =>
          cases rl with
          | nil =>
            unfold gEach at e3
            split at e3
            · cases e3
            · cases e3
          | cons r2 rl =>
            cases rl with
            | cons r3 rl =>
              unfold gEach at e3
              split at e3
              · cases e3
              · unfold gEach at e3
                split at e3
                · cases e3
                · cases e3
            | nil =>
              unfold gEach at e3
              split at e3
              · cases e3
              · rename_i ρa ea
                unfold gEach at e3
                split at e3
                · cases e3
                · rename_i ρb eb
                  cases e3
                  unfold gName at ea eb
                  split at ea
                  · rename_i c1
                    cases ea
                    split at eb
                    · rename_i c2
                      cases eb
                      refine ⟨_, _, rfl, ?_⟩
                      have R3 := R2.store c1.1 (sv := .val _) r1 (fun z => by cases z)
                      exact k _ _ _ (l1.trans l2) (R3.store c2.1 (sv := .val _) r2 (fun z => by cases z))
                    · cases eb
                  · cases ea
end
/-- the body of a def -/
structure GoodS (S : Stat) (T : TL) (k : Nat) (X : Cx) : Prop extends Good S T k X where
  fun_ : S.sc.kind = .function
theorem comp_no {n : Nat} {S : Stat} {e : Expr} {t : ME} (h : trE n S e = some t) (hc : isComp e = false) (tg : Option Expr) (l : Nat) (env : PySem.Env) : swapsWith e tg l env = pure false := by
  cases n with
  | zero => unfold trE at h; cases h
  | succ n => cases e <;> first | rfl | (cases hc; done) | (unfold trE at h; cases h)
theorem sw_comp {elt : Expr} {gs : List Comprehension} {scope : Scope} {pos py : Pos} {y : Str} {l : Nat} {env : PySem.Env} (hk : env.scope.kind = .function) :
    swapsWith (.ListComp elt gs scope pos) (some (.Name y py)) l env = pure false ∨ (swapsWith (.ListComp elt gs scope pos) (some (.Name y py)) l env = pure true ∧ env.scope.names.lookup y = some .local) := by
  by_cases hy : env.scope.names.lookup y = some .local
  · have h : ∃ b, swapsWith (.ListComp elt gs scope pos) (some (.Name y py)) l env = pure b := ⟨_, rfl⟩
    obtain ⟨b, h⟩ := h
    cases b
    · exact .inl h
    · exact .inr ⟨h, hy⟩
  · left
    have ky : (env.kindOf y == some .local) = false := by
      have hy : env.kindOf y ≠ some .local := hy
      simpa using hy
    unfold swapsWith
    simp only [ky, Bool.and_false, Bool.false_and]
structure SndS (n : Nat) : Prop where
  s : ∀ {S : Stat} {T : TL} {k : Nat} {X : Cx} {B : Option Addr} {st : Stmt} {t : MS}, GoodS S T k X → trS n S st = some t → PS X st (rdS T B t)
  b : ∀ {S : Stat} {T : TL} {k : Nat} {X : Cx} {B : Option Addr} {st : List Stmt} {t : MS}, GoodS S T k X → trB n S st = some t → PSs X st (rdS T B t)
section
variable {n : Nat} {S : Stat} {T : TL} {k : Nat} {X : Cx} {B : Option Addr}
theorem GoodS.pass (g : GoodS S T k X) : PassesOwn (model X.prog X.w) X.A X.env X.xe := by rw [g.xe]; exact PassesOwn.never
theorem GoodS.kd (g : GoodS S T k X) : X.env.scope.kind = .function := by rw [g.sc]; exact g.fun_
theorem asg1 {tg : Expr} {env : PySem.Env} (h : isStar tg = false) : (assignEach [tg] env).map (·.2) = [assign tg env] := by
  cases tg <;> first | rfl | cases h
theorem sub_sw (a k : Expr) (p : Pos) (e : Expr) (l : Nat) (env : PySem.Env) (u : Unit := ()) : swapsWithSole [.Subscript a k p] e l env = pure false := by cases e <;> rfl
theorem pss_one {st : Stmt} {t : MS} (h : PS X st (rdS T B t)) : PSs X [st] (rdS T B t) := PSs.imp (pss_dCons h pss_dNil) fun D σ H z => by
  obtain ⟨P, F, ρ, fl, ρ', R, ev, k⟩ := z
  refine ⟨P, F, ρ, fl, ρ', R, ?_, k⟩
  unfold sSeq sNil
  rw [ev]
  cases fl <;> rfl
theorem snd_s (m : SndS n) {st : Stmt} {t : MS} (g : GoodS S T k X) (h : trS (n + 1) S st = some t) : PS X st (rdS T B t) := by
  have s := snd n
  have gg := g.toGood
  have hN : X.N.Nodup := by rw [g.N]; exact g.nd
  unfold trS at h
  split at h
  · rename_i x p e q
    split at h
    · rename_i i te h1 h2
      cases h
      obtain ⟨a1, a2, a3⟩ := gg.loc h1
      by_cases hc : isComp e = true
      · cases e <;> first | (cases hc; done) | skip
        rename_i elt gens scope cp
        rcases sw_comp (elt := elt) (gs := gens) (scope := scope) (pos := cp) (py := p) (y := x) (l := q.line) g.kd with hs | ⟨hs, hl⟩
        · exact ps_dSet hN a1 a2 (s.e gg h2) hs a3
        · cases n with
          | zero => unfold trE at h2; cases h2
          | succ n =>
            unfold trE at h2
            dsimp only at h2
            split at h2
            · rename_i ow te it g' ifs cs h3
              cases h2
              obtain ⟨tg, iter, ifs', cs', rfl, rfl, b1, b2, b3, b4⟩ := (snd n).c (B := B) gg h3
              exact ps_dSetComp g.calm hN a1 hl hs b1 b3 b4 (fold_plain b2)
            · cases h2
      · exact ps_dSet hN a1 a2 (s.e gg h2) (comp_no h2 (by simpa using hc) _ _ _) a3
    · cases h
  · rename_i x p y q kt pt a b k2 p2 ps
    split at h
    · rename_i i j ta tb h1 h2 h3 h4
      obtain ⟨a1, a2, a3⟩ := gg.loc h1
      obtain ⟨b1, b2, b3⟩ := gg.loc h2
      have ha := (plain_of h3).1
      have hb := (plain_of h4).1
      have na : ∀ e p, a ≠ .Starred e p := fun e p z => by rw [z] at ha; cases ha
      have nb : ∀ e p, b ≠ .Starred e p := fun e p z => by rw [z] at hb; cases hb
      have kq : ∀ z, S.kind z = X.env.scope.names.lookup z := fun z => by rw [g.sc]; rfl
      split at h
      · rename_i hc
        cases h
        simp only [Bool.and_eq_true, bne_iff_ne, ne_eq, beq_iff_eq, Bool.not_eq_true'] at hc
        obtain ⟨⟨⟨⟨⟨⟨c1, c2⟩, c3⟩, c4⟩, c5⟩, c6⟩, c7⟩ := hc
        rw [kq] at c4 c5
        exact ps_dPar g.calm hN a1 b1 c1 c4 c5 (two_args (s.e gg h3) ha (s.e gg h4) hb) (sw_pair g.kd c4 c5 (by rw [c3]; exact beq_self_eq_true _) (by simpa using c2) na nb c7 c6)
      · split at h
        · rename_i hc
          cases h
          simp only [Bool.or_eq_true, bne_iff_ne, ne_eq] at hc
          rw [kq, kq] at hc
          exact ps_dAsg (pe_dTup (two_args (s.e gg h3) ha (s.e gg h4) hb) (pe_tup (two_args (s.e gg h3) ha (s.e gg h4) hb))) (pg_dTup g.calm (pgs_dCons (pg_dName hN a1 a2 a3) (pgs_dCons (pg_dName hN b1 b2 b3) pgs_dNil rfl) rfl) rfl rfl) rfl (sw_cell hc) rfl
        · cases h
    · cases h
  · rename_i ts kt pt e q _
    split at h
    · cases h
    · rename_i ht
      split at h
      · rename_i gs te h1 h2
        cases h
        obtain ⟨b1, b2, b3⟩ := s.gl (B := B) gg h1
        refine ps_dAsg (s.e gg h2) (pg_dTup g.calm b1 b2 b3) (by cases e <;> rfl) (sw_other ?_) rfl
        cases e <;> first | rfl | exact (ht rfl).elim
      · cases h
  · split at h
    · rename_i i tk te h1 h2 h3
      cases h
      obtain ⟨a1, a2, a3, a4⟩ := gg.slot h1
      rename_i e _ _ _ _ _ _
      exact ps_dSetIx (pe_var a1 a2 a3 a4) (plain_of h2).2.2 (s.e gg h2) (s.e gg h3) (sub_sw _ _ _ _ _ _) (sw_other rfl)
    · cases h
  · split at h
    · rename_i i f te h1 h2 h3
      cases h
      obtain ⟨a1, a2, a3⟩ := gg.loc h1
      exact ps_dAug hN a1 a2 (s.e gg h3) h2 a3
    · cases h
  · split at h
    · rename_i g' ti tb h1 h2 h3
      cases h
      obtain ⟨i1, i2⟩ := s.i (B := B) gg h2
      exact ps_dFor g.pass g.calm i1 (s.g gg h1).1 (m.b g h3) (fold_plain i2)
    · cases h
  · split at h
    · rename_i tc tb h1 h2
      cases h
      exact ps_dWhile g.pass (s.t gg h1) (m.b g h2)
    · cases h
  · split at h
    · rename_i tc ta tb h1 h2 h3
      cases h
      exact ps_dIf (s.t gg h1) (m.b g h2) (m.b g h3)
    · cases h
  · obtain ⟨te, h1, rfl⟩ := Option.map_eq_some_iff.mp h
    exact ps_dRet (s.e gg h1)
  · split at h
    · cases h
    · rename_i hl
      split at h
      · rename_i hm
        obtain rfl := eq_of_beq hm
        split at h
        · rename_i i te h1 h2
          cases h
          obtain ⟨a1, a2, a3, a4⟩ := gg.slot h1
          exact ps_append (pe_var a1 a2 a3 a4) (by simpa using hl) (star_cons (plain_of h2).1) (s.e gg h2)
        · cases h
      · split at h
        · rename_i hm
          obtain rfl := eq_of_beq hm
          split at h
          · rename_i i te h1 h2
            cases h
            obtain ⟨a1, a2, a3, a4⟩ := gg.slot h1
            exact ps_extend (pe_var a1 a2 a3 a4) (by simpa using hl) (star_cons (plain_of h2).1) (s.e gg h2)
          · cases h
        · obtain ⟨te, h1, rfl⟩ := Option.map_eq_some_iff.mp h
          exact ps_dDrop (s.e gg h1) rfl
  · split at h
    · cases h
    · rename_i hc
      obtain ⟨te, h1, rfl⟩ := Option.map_eq_some_iff.mp h
      exact ps_dDrop (s.e gg h1) (comp_no h1 (by simpa using hc) _ _ _)
  · cases h; exact ps_dPass
  · cases h; exact ps_dBreak
  · cases h; exact ps_dCont
  · cases h
theorem snd_b (m : SndS n) {st : List Stmt} {t : MS} (g : GoodS S T k X) (h : trB (n + 1) S st = some t) : PSs X st (rdS T B t) := by
  cases st with
  | nil =>
    unfold trB at h
    cases h
    exact pss_dNil
  | cons s r =>
    cases r with
    | nil =>
      have h : trS n S s = some t := by unfold trB at h; exact h
      exact pss_one (m.s g h)
    | cons s2 r =>
      have h : (match trS n S s, trB n S (s2 :: r) with | some a, some b => some (sSeq a b) | _, _ => none) = some t := by unfold trB at h; exact h
      split at h
      · rename_i a b h1 h2
        cases h
        exact pss_dCons (m.s g h1) (m.b g h2)
      · cases h
end
theorem sndS0 : SndS 0 where
  s := fun _ h => by unfold trS at h; cases h
  b := fun _ h => by unfold trB at h; cases h
theorem sndS : ∀ n, SndS n
  | 0 => sndS0
  | n + 1 => have m := sndS n
    { s := snd_s m, b := snd_b m }
end LH
end

section
set_option Elab.async false
set_option linter.all false
set_option maxRecDepth 100000
set_option maxHeartbeats 4000000
/-! A def whose body is translated keeps its promise. -/
namespace LH
open PySem PySem.Spec L2
theorem Rel.nil {T : TL} {B : Option Addr} {P F H : Hp} {ρ : Env} {σ : St} (R : Rel T B P F H ρ σ) : Rel T none P F H [] [] where
  fh := R.fh
  ph := R.ph
  len := rfl
  ent := fun i sv g => (nothing g).elim
  dist := fun i j sv sv' a g => (nothing g).elim
  tabs := R.tabs
  ptab := R.ptab
  ftab := R.ftab
theorem get_vals {ds : List D} {m : Nat} {i : Nat} {sv : SV} (h : get (ds.map (fun d => some (.val d)) ++ List.replicate m none) i = some sv) : ∃ d, ds[i]? = some d ∧ sv = .val d := by
  rw [get_iff] at h
  by_cases hi : i < ds.length
  · rw [List.getElem?_append_left (by rw [List.length_map]; exact hi), List.getElem?_map] at h
    obtain ⟨d, h1, h2⟩ := Option.map_eq_some_iff.mp h
    cases h2
    exact ⟨d, h1, rfl⟩
  · rw [List.getElem?_append_right (by rw [List.length_map]; omega)] at h
    have := List.mem_of_getElem? h
    rw [List.mem_replicate] at this
    cases this.2
theorem RpL.at_ {F : Hp} {vs : List V} {ds : List D} (r : RpL F vs ds) : ∀ {i : Nat} {d : D}, ds[i]? = some d → ∃ v, vs[i]? = some v ∧ Rp F v d := by
  induction vs generalizing ds with
  | nil => cases r; intro i d h; simp at h
  | cons v vs ih =>
    cases r with
    | cons a b =>
      intro i d h
      cases i with
      | zero => simp at h; subst h; exact ⟨v, rfl, a⟩
      | succ i => simp at h; simpa using ih b h
theorem Rel.start {T : TL} {P F H : Hp} {N : List Str} {vs : List V} {ds : List D} (R : Rel T none P F H [] []) (r : RpL F vs ds) : Rel T none P F H (ds.map (fun d => some (.val d)) ++ List.replicate (N.length - ds.length) none) (start N vs) where
  fh := R.fh
  ph := R.ph
  len := by unfold L2.start; simp only [List.length_append, List.length_map, List.length_replicate, r.length]
  ent := fun i sv g => by
    obtain ⟨d, h1, rfl⟩ := get_vals g
    obtain ⟨v, h2, h3⟩ := r.at_ h1
    refine ⟨v, ?_, h3⟩
    unfold L2.start
    have hl : i < vs.length := by
      by_cases hi : i < vs.length
      · exact hi
      · rw [List.getElem?_eq_none (by omega)] at h2; cases h2
    rw [List.getElem?_append_left (by rw [List.length_map]; exact hl), List.getElem?_map, h2]
    rfl
  dist := fun i j sv sv' a g _ o => by
    obtain ⟨d, _, rfl⟩ := get_vals g
    cases o
  tabs := R.tabs
  ptab := R.ptab
  ftab := R.ftab
/-- the rule for a def that keeps its hands off its arguments -/
theorem def_ok {P : Program} {w : World} {K : PySem.W.Frag} {mg : Str → Option Value} {base : Heap} {k : Nat} {f : Addr} {x qual : Str} {st : Stmt} {kV doc pm ct oc : Value} {an od : Option Addr} {osl : Array (Option Value)} {N ps : List Str} {T : TL} {c Pt : Addr} {fn : Str → Option Fn} {ms : MS} {n : Nat}
    (lk : K.lookup f = some ⟨oc, od, .func (PySem.W.fnOf x qual (defArgs st) (defBody st) (defScope st) .none kV doc pm an (.ref c) ct), osl⟩) (hcd : PySem.W.codeIn K (.ref c) qual = true) (S : FnScope N ps (defScope st))
    (TB : GxR.TabB base mg c Pt) (hT : (Pt, none) ∈ T) (nb : ∀ x ∈ N, (x == ("__debug__" : Str)) = false ∧ (x == ("__classdict__" : Str)) = false)
    (fns : ∀ x f, fn x = some f → (x == ("__debug__" : Str)) = false ∧ ∃ (a : Addr) (fd : FuncData) (ps : List Str), FnOk P w K mg base CX0 k a fd ps (spOf T f) ∧ mg x = some (.ref a) ∧ PySem.W.keepIn K (.ref a) = true ∧ Binds K fd ps [])
    (blt : ∀ x b, bnames.lookup x = some b → fn x = none → mg x = none)
    (tr : trB n ⟨N, defScope st, fn, storable (defScope st), DEP⟩ (defBody st) = some ms) :
    FnOk P w K mg base CX0 (k + 17) f (PySem.W.fnOf x qual (defArgs st) (defBody st) (defScope st) .none kV doc pm an (.ref c) ct) ps (spP T (fnSem false ps.length N.length ms)) := by
  have len : ∀ (ds : List D) r, fnSem false ps.length N.length ms ds = some r → ds.length = ps.length := fun ds r h => by
    unfold fnSem at h
    split at h
    · assumption
    · cases h
  refine fn_of (k := k + 16) lk hcd S (fun vs H Q E h => ?_) fun A outer s H vs Q E hr h => ?_
  · obtain ⟨P', F, ds, r, o, R, rl, e, _⟩ := h
    rw [rl.length]
    exact len _ _ e
  · refine ⟨_, ((sndS n).b (T := T) (k := k) (B := none) (S := ⟨N, defScope st, fn, storable (defScope st), DEP⟩) (X := (cxOf CX0 P w K mg base N qual (defScope st) f (.ref c) A outer s H E).nox) ⟨⟨rfl, S.nd, nb, rfl, rfl, hr, ⟨c, Pt, none, .inl TB, hT, rfl⟩, fns, blt, fun x _ _ => .inl rfl, rfl⟩, S.kind⟩ tr).nox, ?_⟩
    obtain ⟨P', F, ds, r, o, R, rl, e, hn, q⟩ := h
    have e0 := e
    unfold fnSem at e
    split at e
    · rename_i hl
      split at e
      · cases e
      · rename_i fl ρ' e1
        have e1 : ms (ds.map (fun d => some (.val d)) ++ List.replicate (N.length - ds.length) none) = some (fl, ρ') := by rw [hl]; exact e1
        refine ⟨P', F, _, fl, ρ', R.start rl, e1, fun σ' H' F' l' R' => ?_⟩
        cases fl with
        | nx =>
          cases e
          exact q _ H' F' l' R'.nil (show Rp F' .non .none from .non)
        | br => cases e
        | ct => cases e
        | ret r' =>
          cases e
          exact fun v hv => q v H' F' l' R'.nil hv.2.1
    · cases e
theorem get_valsIO {xs : List D} {ds : List D} {m : Nat} {i : Nat} {sv : SV} (h : get (some (.io xs) :: ds.map (fun d => some (.val d)) ++ List.replicate m none) i = some sv) : (i = 0 ∧ sv = .io xs) ∨ ∃ j d, i = j + 1 ∧ ds[j]? = some d ∧ sv = .val d := by
  cases i with
  | zero =>
    rw [get_iff] at h
    simp at h
    exact .inl ⟨rfl, h.symm⟩
  | succ i =>
    have h : get (ds.map (fun d => some (.val d)) ++ List.replicate m none) i = some sv := by
      rw [get_iff] at h ⊢
      simpa using h
    obtain ⟨d, h1, h2⟩ := get_vals h
    exact .inr ⟨i, d, rfl, h1, h2⟩
theorem Rel.startIO {T : TL} {P F H : Hp} {N : List Str} {a : Addr} {us vr : List V} {xs ds : List D} (R : Rel T none P F H [] []) (hA : H a = some (.lst us)) (hu : RpL F us xs) (fa : F a = none) (pa : P a = none) (r : RpL F vr ds) :
    Rel T (some a) P F H (some (.io xs) :: ds.map (fun d => some (.val d)) ++ List.replicate (N.length - (ds.length + 1)) none) (L2.start N (.ref a :: vr)) where
  fh := R.fh
  ph := R.ph
  len := by unfold L2.start; simp only [List.length_append, List.length_map, List.length_replicate, List.length_cons, r.length]
  ent := fun i sv g => by
    rcases get_valsIO g with ⟨rfl, rfl⟩ | ⟨j, d, rfl, h1, rfl⟩
    · exact ⟨_, rfl, a, us, rfl, hA, hu, fa, pa, rfl⟩
    · obtain ⟨v, h2, h3⟩ := r.at_ h1
      refine ⟨v, ?_, h3⟩
      unfold L2.start
      have hl : j < vr.length := by
        by_cases hi : j < vr.length
        · exact hi
        · rw [List.getElem?_eq_none (by omega)] at h2; cases h2
      rw [List.getElem?_append_left (by rw [List.length_map, List.length_cons]; omega), List.getElem?_map, List.getElem?_cons_succ, h2]
      rfl
  dist := fun i j sv sv' b g g' o o' _ _ => by
    rcases get_valsIO g with ⟨rfl, rfl⟩ | ⟨_, d, rfl, _, rfl⟩
    · rcases get_valsIO g' with ⟨rfl, rfl⟩ | ⟨_, d, rfl, _, rfl⟩
      · rfl
      · cases o'
    · cases o
  tabs := R.tabs
  ptab := R.ptab
  ftab := R.ftab
/-- the rule for a def that changes the list it is handed first -/
theorem def_okIO {P : Program} {w : World} {K : PySem.W.Frag} {mg : Str → Option Value} {base : Heap} {k : Nat} {f : Addr} {x qual : Str} {st : Stmt} {kV doc pm ct oc : Value} {an od : Option Addr} {osl : Array (Option Value)} {N ps : List Str} {T : TL} {c Pt : Addr} {fn : Str → Option Fn} {ms : MS} {n : Nat}
    (lk : K.lookup f = some ⟨oc, od, .func (PySem.W.fnOf x qual (defArgs st) (defBody st) (defScope st) .none kV doc pm an (.ref c) ct), osl⟩) (hcd : PySem.W.codeIn K (.ref c) qual = true) (S : FnScope N ps (defScope st))
    (TB : GxR.TabB base mg c Pt) (hT : (Pt, none) ∈ T) (nb : ∀ x ∈ N, (x == ("__debug__" : Str)) = false ∧ (x == ("__classdict__" : Str)) = false)
    (fns : ∀ x f, fn x = some f → (x == ("__debug__" : Str)) = false ∧ ∃ (a : Addr) (fd : FuncData) (ps : List Str), FnOk P w K mg base CX0 k a fd ps (spOf T f) ∧ mg x = some (.ref a) ∧ PySem.W.keepIn K (.ref a) = true ∧ Binds K fd ps [])
    (blt : ∀ x b, bnames.lookup x = some b → fn x = none → mg x = none)
    (tr : trB n ⟨N, defScope st, fn, storable (defScope st), DEP⟩ (defBody st) = some ms) :
    FnOk P w K mg base CX0 (k + 17) f (PySem.W.fnOf x qual (defArgs st) (defBody st) (defScope st) .none kV doc pm an (.ref c) ct) ps (spIO T (fnSem true ps.length N.length ms)) := by
  have len : ∀ (ds : List D) r, fnSem true ps.length N.length ms ds = some r → ds.length = ps.length := fun ds r h => by
    unfold fnSem at h
    split at h
    · assumption
    · cases h
  refine fn_of (k := k + 16) lk hcd S (fun vs H Q E h => ?_) fun A outer s H vs Q E hr h => ?_
  · obtain ⟨P', F, a, us, xs, vr, ds, r, ys, rfl, hA, hu, fa, pa, R, rl, e, _⟩ := h
    have := len _ _ e
    rw [List.length_cons] at this ⊢
    rw [rl.length, this]
  · obtain ⟨P', F, a, us, xs, vr, ds, r, ys, rfl, hA, hu, fa, pa, R, rl, e, hn, q⟩ := h
    refine ⟨_, ((sndS n).b (T := T) (k := k) (B := some a) (S := ⟨N, defScope st, fn, storable (defScope st), DEP⟩) (X := (cxOf CX0 P w K mg base N qual (defScope st) f (.ref c) A outer s H E).nox) ⟨⟨rfl, S.nd, nb, rfl, rfl, hr, ⟨c, Pt, none, .inl TB, hT, rfl⟩, fns, blt, fun x _ _ => .inl rfl, rfl⟩, S.kind⟩ tr).nox, ?_⟩
    unfold fnSem at e
    split at e
    · rename_i hl
      split at e
      · cases e
      · rename_i fl ρ' e1
        have e1 : ms (some (.io xs) :: ds.map (fun d => some (.val d)) ++ List.replicate (N.length - (ds.length + 1)) none) = some (fl, ρ') := by
          rw [List.length_cons] at hl
          rw [hl]; exact e1
        refine ⟨P', F, _, fl, ρ', R.startIO hA hu fa pa rl, e1, fun σ' H' F' l' R' => ?_⟩
        have fin : ∀ (r' : LH.R) v, (match true, get ρ' 0 with | false, _ => some (r', []) | true, some (.io xs) => some (r', xs) | _, _ => none) = some (r, ys) → RepRet P' F' H' ρ' σ' r' v → Q v H' := fun r' v er hv => by
          split at er
          · contradiction
          · rename_i xs' g0
            cases er
            obtain ⟨v0, s0, a', us', rfl, h1, h2, h3, h4, h5⟩ := R'.ent _ _ g0
            cases h5
            refine q v H' F' us' l' R'.nil h1 h2 h3 ?_
            obtain ⟨n1, n2, n3⟩ := hv
            cases r with
            | val d => exact n2
            | tmp zs =>
              obtain ⟨b, vs, rfl, b1, b2, b3, b4, b5⟩ := n2
              refine ⟨b, vs, rfl, b1, b2, b3, ?_, b5⟩
              have hne : b ≠ a := fun z => n3 0 _ g0 ⟨_, rfl⟩ (by rw [s0, z])
              rw [upd_ne hne]; exact b4
            | tdc kvs => obtain ⟨b, rfl, z, _⟩ := n2; exact z.elim
            | slot i => exact n1.elim
          · cases er
        cases fl with
        | nx => exact fin _ _ e ⟨trivial, (show Rp F' .non .none from .non), fun i xs _ z => by obtain ⟨_, z⟩ := z; cases z⟩
        | br => cases e
        | ct => cases e
        | ret r' => exact fun v hv => fin _ _ e hv
    · cases e
end LH
end

section
set_option Elab.async false
set_option linter.all false
set_option maxRecDepth 100000
set_option maxHeartbeats 2000000
/-! The defs of a text, level by level. -/
namespace LH
open PySem PySem.Spec L2
structure DefRow where
  name : Str
  st : Stmt
  N : List Str
  ps : List Str
  io : Bool
def semOf (fn : Str → Option Fn) (r : DefRow) : List D → Option (R × List D) := match trB FUEL ⟨r.N, defScope r.st, fn, storable (defScope r.st), DEP⟩ (defBody r.st) with
  | some ms => fnSem r.io r.ps.length r.N.length ms
  | none => fun _ => none
def rowAt (rows : List DefRow) (x : Str) : Option DefRow := rows.find? fun r => r.name == x
def fnAt (rows : List DefRow) : Nat → Str → Option Fn
  | 0, x => (rowAt rows x).map fun r => { io := r.io, sem := fun _ => none }
  | m + 1, x => (rowAt rows x).map fun r => { io := r.io, sem := semOf (fnAt rows m) r }
structure RowOk (P : Program) (w : World) (K : PySem.W.Frag) (mg : Str → Option Value) (base : Heap) (T : TL) (r : DefRow) : Prop where
  ex : ∃ (f c Pt : Addr) (oc : Value) (od an : Option Addr) (osl : Array (Option Value)) (kV doc pm ct : Value) (qual : Str), K.lookup f = some ⟨oc, od, .func (PySem.W.fnOf r.name qual (defArgs r.st) (defBody r.st) (defScope r.st) .none kV doc pm an (.ref c) ct), osl⟩ ∧ PySem.W.codeIn K (.ref c) qual = true ∧
    GxR.TabB base mg c Pt ∧ (Pt, none) ∈ T ∧ mg r.name = some (.ref f) ∧ PySem.W.keepIn K (.ref f) = true ∧ Binds K (PySem.W.fnOf r.name qual (defArgs r.st) (defBody r.st) (defScope r.st) .none kV doc pm an (.ref c) ct) r.ps []
  S : FnScope r.N r.ps (defScope r.st)
  nb : ∀ x ∈ r.N, (x == ("__debug__" : Str)) = false ∧ (x == ("__classdict__" : Str)) = false
  nd : (r.name == ("__debug__" : Str)) = false
theorem ladder {P : Program} {w : World} {K : PySem.W.Frag} {mg : Str → Option Value} {base : Heap} {T : TL} {rows : List DefRow} (h : ∀ r ∈ rows, RowOk P w K mg base T r) (blt : ∀ x b, bnames.lookup x = some b → mg x = none) :
    ∀ m x f, fnAt rows m x = some f → (x == ("__debug__" : Str)) = false ∧ ∃ (a : Addr) (fd : FuncData) (ps : List Str), FnOk P w K mg base CX0 (17 * m) a fd ps (spOf T f) ∧ mg x = some (.ref a) ∧ PySem.W.keepIn K (.ref a) = true ∧ Binds K fd ps [] := by
  intro m
  induction m with
  | zero =>
    intro x f e
    obtain ⟨r, e1, rfl⟩ := Option.map_eq_some_iff.mp e
    obtain rfl : r.name = x := by have := List.find?_some e1; exact eq_of_beq this
    have ok := h r (List.mem_of_find?_eq_some e1)
    obtain ⟨f, c, Pt, oc, od, an, osl, kV, doc, pm, ct, qual, h1, h2, h3, h4, h5, h6, h7⟩ := ok.ex
    have no : ∀ vs H Q E, ¬ spOf T { io := r.io, sem := fun _ => none } vs H Q E := fun vs H Q E z => by
      unfold spOf at z
      split at z
      · obtain ⟨_, _, _, _, _, _, _, _, _, _, _, _, _, _, _, _, z, _⟩ := z; cases z
      · obtain ⟨_, _, _, _, _, _, _, z, _⟩ := z; cases z
    exact ⟨ok.nd, f, _, r.ps, ⟨fun vs H Q E z => (no _ _ _ _ z).elim, fun _ _ _ _ _ _ _ _ _ _ _ _ _ z => (no _ _ _ _ z).elim⟩, h5, h6, h7⟩
  | succ m ih =>
    intro x f e
    obtain ⟨r, e1, rfl⟩ := Option.map_eq_some_iff.mp e
    obtain rfl : r.name = x := by have := List.find?_some e1; exact eq_of_beq this
    have ok := h r (List.mem_of_find?_eq_some e1)
    obtain ⟨f, c, Pt, oc, od, an, osl, kV, doc, pm, ct, qual, h1, h2, h3, h4, h5, h6, h7⟩ := ok.ex
    refine ⟨ok.nd, f, _, r.ps, ?_, h5, h6, h7⟩
    unfold semOf
    cases tr : trB FUEL ⟨r.N, defScope r.st, fnAt rows m, storable (defScope r.st), DEP⟩ (defBody r.st) with
    | none =>
      have no : ∀ vs H Q E, ¬ spOf T { io := r.io, sem := fun _ => none } vs H Q E := fun vs H Q E z => by
        unfold spOf at z
        split at z
        · obtain ⟨_, _, _, _, _, _, _, _, _, _, _, _, _, _, _, _, z, _⟩ := z; cases z
        · obtain ⟨_, _, _, _, _, _, _, z, _⟩ := z; cases z
      exact ⟨fun vs H Q E z => (no _ _ _ _ z).elim, fun _ _ _ _ _ _ _ _ _ _ _ _ _ z => (no _ _ _ _ z).elim⟩
    | some ms =>
      have e9 : 17 * (m + 1) = 17 * m + 17 := by omega
      rw [e9]
      unfold spOf
      dsimp only
      cases io : r.io with
      | false => exact def_ok (T := T) h1 h2 ok.S h3 h4 ok.nb ih (fun x b hb _ => blt x b hb) tr
      | true => exact def_okIO (T := T) h1 h2 ok.S h3 h4 ok.nb ih (fun x b hb _ => blt x b hb) tr
end LH
end

section
set_option Elab.async false
set_option linter.all false
set_option maxRecDepth 100000
set_option maxHeartbeats 2000000
/-! The end: a law over ints, from what its defs compute. -/
namespace LH
open PySem PySem.Spec L2
def noList (K : PySem.W.Frag) : Bool := K.all fun p => !(p.2.cls == .type "list")
theorem noList_at : ∀ {K : PySem.W.Frag}, noList K = true → ∀ {a : Addr} {o : Obj}, K.lookup a = some o → o.cls ≠ .type "list"
  | [], _, a, o, e => by cases e
  | (b, u) :: K, h, a, o, e => by
    have h : (!(u.cls == .type "list") && noList K) = true := h
    rw [Bool.and_eq_true] at h
    rw [List.lookup_cons] at e
    split at e
    · cases e
      intro z
      rw [z] at h
      exact absurd h.1 (by decide)
    · exact noList_at h.2 e
theorem tab_of {base : Heap} {mg : Str → Option Value} {c Pt : Addr} (t : LamX.TabB base mg c Pt) : GxR.TabB base mg c Pt := ⟨t.code, t.bm, t.gP⟩

/-! what is looked at once the top has run -/
section
variable (g : Addr → Option Obj)
def cdAdr (f : Addr) : Addr := match g f with
  | some ⟨_, _, .func fd, _⟩ => (match fd.code with
    | .ref c => c
    | _ => 0)
  | _ => 0
def tbAdr (c : Addr) : Addr := match g c with
  | some ⟨_, _, .fields vs, _⟩ => (match (vs[11]? : Option Value) with
    | some (.ref P) => P
    | _ => 0)
  | _ => 0
def fsOf (xs : List Str) : List Addr := xs.map (He.ga (He.frG g [mainGlobals]))
def csOf (xs : List Str) : List (Addr × Addr) := ((fsOf g xs).map (cdAdr g)).map fun c => (c, tbAdr g c)
def kOf (xs : List Str) : PySem.W.Frag := He.frG g (mainGlobals :: (fsOf g xs ++ (csOf g xs).map (·.1)))
end
def codeHere (K : PySem.W.Frag) (cs : List (Addr × Addr)) (f : Addr) : Bool := match K.lookup f with
  | some ⟨_, _, .func fd, _⟩ => (match fd.code with
    | .ref c => cs.any fun p => p.1 == c
    | _ => false)
  | _ => false
theorem codeHere_ok {K : PySem.W.Frag} {cs : List (Addr × Addr)} {f : Addr} (h : codeHere K cs f = true) {oc : Value} {od : Option Addr} {osl : Array (Option Value)} {fd : FuncData} (e : K.lookup f = some ⟨oc, od, .func fd, osl⟩) : ∃ p ∈ cs, fd.code = .ref p.1 := by
  unfold codeHere at h
  rw [e] at h
  dsimp only at h
  cases q : fd.code with
  | ref c =>
    rw [q] at h
    obtain ⟨p, hp, e⟩ := List.any_eq_true.mp h
    exact ⟨p, hp, by rw [eq_of_beq e]⟩
  | _ => rw [q] at h; cases h
def rowD (r : DefRow) : He.DefD := ⟨(r.name, none), r.name, r.name, defArgs r.st, defBody r.st, defScope r.st, [], []⟩
def okK (K : PySem.W.Frag) (cs : List (Addr × Addr)) (rows : List DefRow) : Bool :=
  noList K && ((cs.all fun p => PySem.W.codeHdIn K p.1 p.2 && (K.lookup p.2).isNone) && rows.all fun r => codeHere K cs (He.ga K r.name))
def facts (rows : List DefRow) : List He.Fa := bnames.map (fun p => .free p.1) ++ rows.map fun r => .glo r.name
def seenG (rows : List DefRow) (g : Addr → Option Obj) : He.AlD × Bool × List (Option Obj) :=
  (He.obsD (facts rows) (rows.map rowD) (kOf g (rows.map DefRow.name)), okK (kOf g (rows.map DefRow.name)) (csOf g (rows.map DefRow.name)) rows, (csOf g (rows.map DefRow.name)).map fun p => g p.2)
def Says (rows : List DefRow) (h : Heap) : Prop := ∃ (K : PySem.W.Frag) (cs : List (Addr × Addr)), K.In h ∧ He.SaysD (facts rows) (rows.map rowD) K ∧ okK K cs rows = true ∧ ∀ p ∈ cs, h.get? p.2 = some { cls := .none, data := .fields #[] }
def lawHook (rows : List DefRow) : PySem.W.Hook where
  α := He.AlD × Bool × List (Option Obj)
  obs := fun s => seenG rows s.heap.get?
  val := fun _ => (He.valD (rows.map rowD), true, rows.map fun _ => some { cls := .none, data := .fields #[] })
  says := fun _ h => Says rows h
  of := fun _ s e => by
    obtain ⟨e1, e2⟩ := Prod.mk.inj e
    obtain ⟨e2, e3⟩ := Prod.mk.inj e2
    refine ⟨kOf s.heap.get? (rows.map DefRow.name), csOf s.heap.get? (rows.map DefRow.name), He.frG_in, e1, e2, fun p hp => ?_⟩
    have z : s.heap.get? p.2 ∈ (csOf s.heap.get? (rows.map DefRow.name)).map fun p => s.heap.get? p.2 := List.mem_map.mpr ⟨p, hp, rfl⟩
    rw [e3] at z
    obtain ⟨_, _, z⟩ := List.mem_map.mp z
    exact z.symm
  keeps := fun _ _ _ ⟨K, cs, h1, h2, h3, h4⟩ k => ⟨K, cs, PySem.W.Frag.In.keeps h1 k, h2, h3, fun p hp => k _ _ (h4 p hp)⟩
def seenT (rows : List DefRow) (s : PySem.W.SharedT) : He.AlD × Bool × List (Option Obj) := seenG rows (HandSHeadRun.getT s)
theorem seenT_eq (rows : List DefRow) (s : PySem.W.SharedT) : seenT rows s = (lawHook rows).obs s.abs := by
  have e : HandSHeadRun.getT s = s.abs.heap.get? := funext (HandSHeadRun.getT_eq s)
  show seenG rows (HandSHeadRun.getT s) = seenG rows s.abs.heap.get?
  rw [e]
/-- what the text alone tells of a def -/
structure RowSt (r : DefRow) : Prop where
  S : FnScope r.N r.ps (defScope r.st)
  nb : ∀ x ∈ r.N, (x == ("__debug__" : Str)) = false ∧ (x == ("__classdict__" : Str)) = false
  nd : (r.name == ("__debug__" : Str)) = false
  bd : ∀ (kV doc pm : Value) (an : Option Addr) (cdv ct : Value) (us : List Value), us.length = r.ps.length → bindArgs (PySem.W.fnOf r.name r.name (defArgs r.st) (defBody r.st) (defScope r.st) .none kV doc pm an cdv ct) ⟨us, []⟩ = pure (r.ps.zip us)
theorem SaysD.fact_mem {fa : List He.Fa} {fn : List He.DefD} {K : PySem.W.Frag} (c : He.SaysD fa fn K) {f : He.Fa} (h : f ∈ fa) : f.ok K = true := by
  obtain ⟨i, hi⟩ := List.getElem?_of_mem h
  exact He.SaysD.fact c i hi
theorem SaysD.def_mem {fa : List He.Fa} {fn : List He.DefD} {K : PySem.W.Frag} (c : He.SaysD fa fn K) {d : He.DefD} (h : d ∈ fn) : ∃ fd, FunD K d.name d.qual d.params d.body d.scope (d.dvs K) (d.kws K) (He.fAd K d.at_) fd := by
  obtain ⟨i, hi⟩ := List.getElem?_of_mem h
  exact He.SaysD.def_ c i hi
theorem rowOk {P : Program} {w : World} {K : PySem.W.Frag} {mg : Str → Option Value} {base h : Heap} {cs : List (Addr × Addr)} {rows : List DefRow} (X : K.In h) (G : h.Ns mainGlobals mg) (c : He.SaysD (facts rows) (rows.map rowD) K) (ok : okK K cs rows = true)
    (tb : ∀ p ∈ cs, LamX.TabB base mg p.1 p.2) {r : DefRow} (hr : r ∈ rows) (st : RowSt r) : RowOk P w K mg base (cs.map fun p => (p.2, none)) r := by
  obtain ⟨fd, F⟩ := SaysD.def_mem c (List.mem_map.mpr ⟨r, hr, rfl⟩)
  have F : FunD K r.name r.name (defArgs r.st) (defBody r.st) (defScope r.st) [] [] (He.ga K r.name) fd := F
  have kp := F.kp
  have bi : Binds K fd r.ps [] := F.bindsN st.bd
  obtain ⟨oc, od, dV, kV, doc, pm, an, cdv, ct, osl, efd, lk, hcd, hD, hK⟩ := F.ex
  unfold okK at ok
  simp only [Bool.and_eq_true] at ok
  have ch := List.all_eq_true.mp ok.2.2 r hr
  obtain ⟨p, hp, hc⟩ := codeHere_ok ch lk
  have hcv : cdv = .ref p.1 := by rw [← hc, efd]
  have hdv : dV = .none := by
    rcases hD with ⟨_, z⟩ | ⟨z, _⟩
    · exact z
    · exact absurd rfl z
  subst hcv hdv efd
  have gl : mg r.name = some (.ref (He.ga K r.name)) := He.glo_ok X G (SaysD.fact_mem c (List.mem_append_right _ (List.mem_map.mpr ⟨r, hr, rfl⟩)))
  exact ⟨⟨He.ga K r.name, p.1, p.2, oc, od, an, osl, kV, doc, pm, ct, r.name, lk, hcd, tab_of (tb p hp), List.mem_map.mpr ⟨p, hp, rfl⟩, gl, kp, bi⟩, st.S, st.nb, st.nd⟩
theorem lookup_mem {α : Type} [BEq α] [LawfulBEq α] {β : Type} : ∀ {l : List (α × β)} {x : α} {b : β}, l.lookup x = some b → (x, b) ∈ l
  | [], _, _, e => by cases e
  | (a, c) :: l, x, b, e => by
    rw [List.lookup_cons] at e
    split at e
    · rename_i q
      cases e
      rw [eq_of_beq q]
      exact List.mem_cons_self
    · exact List.mem_cons_of_mem _ (lookup_mem e)
theorem free_of {K : PySem.W.Frag} {mg : Str → Option Value} {h : Heap} {rows : List DefRow} (X : K.In h) (G : h.Ns mainGlobals mg) (c : He.SaysD (facts rows) (rows.map rowD) K) : ∀ x b, bnames.lookup x = some b → mg x = none := fun x b e =>
  He.free_ok X G (SaysD.fact_mem c (List.mem_append_left _ (List.mem_map.mpr ⟨(x, b), lookup_mem e, rfl⟩)))
theorem RpL.ints (F : Hp) : ∀ ns : List Int, RpL F (ns.map V.int) (ns.map PyData.int)
  | [] => .nil
  | n :: ns => .cons (.int n) (RpL.ints F ns)
/-- one row, its data named -/
theorem row_fn {P : Program} {w : World} {K : PySem.W.Frag} {mg : Str → Option Value} {base : Heap} {T : TL} {r : DefRow} {k : Nat} {fn : Str → Option Fn} {f c Pt : Addr} {oc : Value} {od an : Option Addr} {osl : Array (Option Value)} {kV doc pm ct : Value} {qual : Str}
    (h1 : K.lookup f = some ⟨oc, od, .func (PySem.W.fnOf r.name qual (defArgs r.st) (defBody r.st) (defScope r.st) .none kV doc pm an (.ref c) ct), osl⟩) (h2 : PySem.W.codeIn K (.ref c) qual = true) (S : FnScope r.N r.ps (defScope r.st)) (h3 : GxR.TabB base mg c Pt) (h4 : (Pt, none) ∈ T)
    (nb : ∀ x ∈ r.N, (x == ("__debug__" : Str)) = false ∧ (x == ("__classdict__" : Str)) = false)
    (fns : ∀ x f, fn x = some f → (x == ("__debug__" : Str)) = false ∧ ∃ (a : Addr) (fd : FuncData) (ps : List Str), FnOk P w K mg base CX0 k a fd ps (spOf T f) ∧ mg x = some (.ref a) ∧ PySem.W.keepIn K (.ref a) = true ∧ Binds K fd ps [])
    (blt : ∀ x b, bnames.lookup x = some b → mg x = none) :
    FnOk P w K mg base CX0 (k + 17) f (PySem.W.fnOf r.name qual (defArgs r.st) (defBody r.st) (defScope r.st) .none kV doc pm an (.ref c) ct) r.ps (spOf T ⟨r.io, semOf fn r⟩) := by
  unfold semOf
  cases tr : trB FUEL ⟨r.N, defScope r.st, fn, storable (defScope r.st), DEP⟩ (defBody r.st) with
  | none =>
    have no : ∀ vs H Q E, ¬ spOf T { io := r.io, sem := fun _ => none } vs H Q E := fun vs H Q E z => by
      unfold spOf at z
      split at z
      · obtain ⟨_, _, _, _, _, _, _, _, _, _, _, _, _, _, _, _, z, _⟩ := z; cases z
      · obtain ⟨_, _, _, _, _, _, _, z, _⟩ := z; cases z
    exact ⟨fun vs H Q E z => (no _ _ _ _ z).elim, fun _ _ _ _ _ _ _ _ _ _ _ _ _ z => (no _ _ _ _ z).elim⟩
  | some ms =>
    unfold spOf
    dsimp only
    cases io : r.io with
    | false => exact def_ok (T := T) h1 h2 S h3 h4 nb fns (fun x b hb _ => blt x b hb) tr
    | true => exact def_okIO (T := T) h1 h2 S h3 h4 nb fns (fun x b hb _ => blt x b hb) tr
/-- THE END -/
theorem lawAt {l : PySem.W.OpenLaw} {w : World} {mg : Str → Option Value} {fa : Addr} {h : Heap} {rows : List DefRow} {m n : Nat} {r : DefRow} {x : Str} (Y : Says rows h) (G : h.Ns mainGlobals mg) (hmg : mg r.name = some (.ref fa))
    (st : ∀ r ∈ rows, RowSt r) (hr : rowAt rows r.name = some r) (hps : r.ps = [x]) (hio : r.io = false)
    (run : ∀ ns : List Int, ns.length ≤ n → (∀ z ∈ ns, Builtin.Int.intBits z ≤ 1048576) → semOf (fnAt rows m) r [.list (ns.map PyData.int)] = some (.val (.bool true), [])) :
    ∃ K : PySem.W.Frag, K.In h ∧ LamX.LawAtS l w K CX0 (17 * (m + 1)) n x mg fa h := by
  obtain ⟨K, cs, X, c, ok, tbl⟩ := Y
  have ok0 := ok
  unfold okK at ok
  simp only [Bool.and_eq_true] at ok
  obtain ⟨noL, tabs, _⟩ := ok
  have rmem : r ∈ rows := List.mem_of_find?_eq_some hr
  have bk : ∀ p ∈ cs, PySem.W.codeHdIn K p.1 p.2 = true ∧ K.lookup p.2 = none := fun p hp => by
    have z := List.all_eq_true.mp tabs p hp
    rw [Bool.and_eq_true] at z
    exact ⟨z.1, by simpa using z.2⟩
  obtain ⟨fd, F⟩ := SaysD.def_mem c (List.mem_map.mpr ⟨r, rmem, rfl⟩)
  have F : FunD K r.name r.name (defArgs r.st) (defBody r.st) (defScope r.st) [] [] (He.ga K r.name) fd := F
  have gl : mg r.name = some (.ref (He.ga K r.name)) := He.glo_ok X G (SaysD.fact_mem c (List.mem_append_right _ (List.mem_map.mpr ⟨r, rmem, rfl⟩)))
  have ea : He.ga K r.name = fa := Value.ref.inj (Option.some.inj (gl.symm.trans hmg))
  have bi := FunD.bindsA (ps := r.ps) F (st r rmem).bd
  refine ⟨K, X, fd, cs, spOf (cs.map fun p => (p.2, none)) ⟨r.io, semOf (fnAt rows m) r⟩, tbl, fun p hp => (bk p hp).2, fun p hp => PySem.W.codeHd_of_K X (bk p hp).1, fun s u => ?_, fun H a ns hl hb hT hS => ?_, fun base KX GB TB => ?_⟩
  · have z := bi s [u] (by rw [hps]; rfl)
    rw [hps] at z
    exact z
  · have e := run ns hl hb
    rw [hio]
    show spP (cs.map fun p => (p.2, none)) (semOf (fnAt rows m) r) [.ref a] H (fun v _ => v = .bl true) (fun _ _ _ => False)
    have hSL : Rd H a (.lst (ns.map V.int)) := by
      rcases hS with z | ⟨o, its, k, z1, z2, _⟩
      · exact z
      · exact absurd z2 (noList_at noL z1)
    obtain ⟨o, ho, hnt⟩ : ∃ o, H a = some o ∧ ((∀ ps, o ≠ .tbl ps) ∧ ∀ ob φ, o ≠ .frz ob (.ext φ)) ∧ Rd (upd (fun _ => none) a o) a (.lst (ns.map V.int)) := by
      rcases hSL with z | ⟨o, z⟩
      · exact ⟨_, z, ⟨(fun ps q => by cases q), fun ob φ q => by cases q⟩, .inl upd_same⟩
      · exact ⟨_, z, ⟨(fun ps q => by cases q), fun ob φ q => by cases q⟩, .inr ⟨o, upd_same⟩⟩
    have tT : TabsOk (cs.map fun p => (p.2, none)) (upd (fun _ => none) a o) H := ⟨fun p hp => by
      obtain ⟨q, hq, rfl⟩ := List.mem_map.mp hp
      exact ⟨⟨#[], hT q hq, trivial, fun pos cv e => by simp [codeAmong] at e⟩, fun c e => by cases e⟩, fun c p ⟨ob, φ, e, _⟩ => by
      by_cases hb : c = a
      · subst hb; rw [upd_same] at e; cases e; exact absurd rfl (hnt.1.2 _ _)
      · rw [upd_ne hb] at e; cases e⟩
    refine ⟨fun _ => none, upd (fun _ => none) a o, [.list (ns.map PyData.int)], _, _, ⟨fun b u z => ?_, (fun b u z => by cases z), rfl, fun i sv g => (nothing g).elim, fun i j sv sv' a g => (nothing g).elim, tT, (fun b u z => by cases z), fun b u z => ?_⟩, .cons (.lst hnt.2 (RpL.ints _ ns)) .nil, e, trivial, fun v H' F' _ _ q => ?_⟩
    · by_cases hb : b = a
      · subst hb; rw [upd_same] at z; cases z; exact ho
      · rw [upd_ne hb] at z; cases z
    · by_cases hb : b = a
      · subst hb; rw [upd_same] at z; cases z; exact hnt.1.1
      · rw [upd_ne hb] at z; cases z
    · have q : Rp F' v (.bool true) := q
      cases q
      rfl
  · obtain ⟨oc, od, dV, kV, doc, pm, an, cdv, ct, osl, efd, lk, hcd, hD, hK⟩ := F.ex
    unfold okK at ok0
    have ok1 := ok0
    simp only [Bool.and_eq_true] at ok0
    obtain ⟨p, hp, hc⟩ := codeHere_ok (List.all_eq_true.mp ok0.2.2 r rmem) lk
    have hcv : cdv = .ref p.1 := by rw [← hc, efd]
    have hdv : dV = .none := by
      rcases hD with ⟨_, z⟩ | ⟨z, _⟩
      · exact z
      · exact absurd rfl z
    subst hcv hdv efd
    have lad := ladder (P := l.prog) (w := w) (fun r hr => rowOk X G c (by unfold okK; exact ok1) TB hr (st r hr)) (free_of X G c) m
    have z := row_fn (k := 17 * m) lk hcd (st r rmem).S (tab_of (TB p hp)) (List.mem_map.mpr ⟨p, hp, rfl⟩) (st r rmem).nb lad (free_of X G c)
    rw [hps, ea] at z
    exact z
end LH
end

section
set_option Elab.async false
set_option linter.all false
set_option maxRecDepth 100000
/-! Words for running texts at the D-level by hand. -/
namespace LH
open PySem
abbrev Sem := List D → Option (R × List D)
theorem get_zero (a : Option SV) (l : Env) : get (a :: l) 0 = a := by cases a <;> rfl
theorem get_succ (a : Option SV) (l : Env) (i : Nat) : get (a :: l) (i + 1) = get l i := rfl
theorem forL_nil (g : MG) (b : MS) (ρ : Env) : forL g b [] ρ = some (.nx, ρ) := rfl
theorem seq_nx {a b : MS} {ρ ρ1 : Env} {x : Option (Fl × Env)} (h : a ρ = some (.nx, ρ1)) (h2 : b ρ1 = x) : sSeq a b ρ = x := by
  unfold sSeq; rw [h]; exact h2
theorem seq_ret {a b : MS} {ρ ρ1 : Env} {r : R} (h : a ρ = some (.ret r, ρ1)) : sSeq a b ρ = some (.ret r, ρ1) := by
  unfold sSeq; rw [h]
theorem if_tt {c : MT} {a b : MS} {ρ ρ1 : Env} {x : Option (Fl × Env)} (h : c ρ = some (true, ρ1)) (h2 : a ρ1 = x) : sIf c a b ρ = x := by
  unfold sIf; rw [h]; exact h2
theorem if_ff {c : MT} {a b : MS} {ρ ρ1 : Env} {x : Option (Fl × Env)} (h : c ρ = some (false, ρ1)) (h2 : b ρ1 = x) : sIf c a b ρ = x := by
  unfold sIf; rw [h]; exact h2
theorem fn_ret {np nl : Nat} {body : MS} {ds : List D} {r : R} {ρ : Env} (hl : ds.length = np) (h : body (params false ds ++ List.replicate (nl - np) none) = some (.ret r, ρ)) : fnSem false np nl body ds = some (r, []) := by
  unfold fnSem; rw [if_pos hl, h]
theorem fn_nx {np nl : Nat} {body : MS} {ds : List D} {ρ : Env} (hl : ds.length = np) (h : body (params false ds ++ List.replicate (nl - np) none) = some (.nx, ρ)) : fnSem false np nl body ds = some (.val .none, []) := by
  unfold fnSem; rw [if_pos hl, h]
theorem fn_io {np nl : Nat} {body : MS} {ds xs : List D} {r : R} {ρ : Env} (hl : ds.length = np) (h : body (params true ds ++ List.replicate (nl - np) none) = some (.ret r, ρ)) (g : get ρ 0 = some (.io xs)) : fnSem true np nl body ds = some (r, xs) := by
  unfold fnSem; rw [if_pos hl, h]; dsimp only; rw [g]
/-- a loop by an invariant of the turn -/
theorem forL_inv {g : MG} {body : MS} (I : Nat → Env → Prop) : ∀ {xs : List D} {n : Nat} {ρ : Env}, I n ρ →
    (∀ i x ρ, xs[i]? = some x → I (n + i) ρ → ∃ ρ1 fl ρ2, g x ρ = some ρ1 ∧ body ρ1 = some (fl, ρ2) ∧ (fl = .nx ∨ fl = .ct) ∧ I (n + i + 1) ρ2) → ∃ ρ', forL g body xs ρ = some (.nx, ρ') ∧ I (n + xs.length) ρ'
  | [], n, ρ, h, _ => ⟨ρ, rfl, h⟩
  | x :: xs, n, ρ, h, st => by
    obtain ⟨ρ1, fl, ρ2, h1, h2, h3, h4⟩ := st 0 x ρ rfl h
    obtain ⟨ρ', h5, h6⟩ := forL_inv (g := g) (body := body) I (xs := xs) (n := n + 1) (ρ := ρ2) h4 fun i y ρ e q => by
      have := st (i + 1) y ρ (by simpa using e) (by rw [show n + (i + 1) = n + 1 + i by omega]; exact q)
      rw [show n + (i + 1) + 1 = n + 1 + i + 1 by omega] at this
      exact this
    refine ⟨ρ', ?_, by rw [List.length_cons, show n + (xs.length + 1) = n + 1 + xs.length by omega]; exact h6⟩
    unfold forL
    rw [h1]; dsimp only
    rw [h2]
    rcases h3 with rfl | rfl <;> exact h5
/-- statements one behind the other -/
def seqs : List MS → MS → MS
  | [], r => r
  | a :: l, r => sSeq a (seqs l r)
def runs : List MS → Env → Option Env
  | [], ρ => some ρ
  | a :: l, ρ => match a ρ with
    | some (.nx, ρ1) => runs l ρ1
    | _ => none
theorem seqs_run : ∀ {l : List MS} {r : MS} {ρ ρ1 : Env}, runs l ρ = some ρ1 → seqs l r ρ = r ρ1
  | [], r, ρ, ρ1, h => by cases h; rfl
  | a :: l, r, ρ, ρ1, h => by
    unfold runs at h
    split at h
    · rename_i ρ2 e
      exact seq_nx e (seqs_run h)
    · cases h
def slotV (e : Option Env) (i : Nat) : D := match e with
  | some ρ => (match get ρ i with
    | some (.val d) => d
    | _ => .none)
  | none => .none
def slotO (e : Option Env) (i : Nat) : List D := match e with
  | some ρ => (match get ρ i with
    | some (.own l) => l
    | _ => [])
  | none => []
def itemsD : D → List D
  | .list l => l
  | .tuple l => l
  | _ => []
end LH
end

section
set_option Elab.async false
set_option linter.all false
set_option maxRecDepth 100000
/-! What each word does, applied. -/
namespace LH
open PySem
@[simp] theorem x_get0 (a : Option SV) (l : Env) : get (a :: l) 0 = a := get_zero a l
@[simp] theorem x_getS (a : Option SV) (l : Env) (i : Nat) : get (a :: l) (i + 1) = get l i := rfl
@[simp] theorem x_testAll0 : testAll [] = fun ρ => some (true, ρ) := rfl
@[simp] theorem x_dVal (d : D) (ρ : Env) : dVal d ρ = (some (.val d, ρ)) := rfl
@[simp] theorem x_dVar (i : Nat) (ρ : Env) : dVar i ρ = (match get ρ i with
  | some (.val d) => some (.val d, ρ)
  | some _ => some (.slot i, ρ)
  | none => none) := rfl
@[simp] theorem x_dTup (es : List ME) (ρ : Env) : dTup es ρ = (match dArgs es ρ with
  | none => none
  | some (rs, ρ1) => match shares rs ρ1 with
    | none => none
    | some (ds, ρ2) => if ds.length ≤ LIM then some (.val (.tuple ds), ρ2) else none) := rfl
@[simp] theorem x_dLst (es : List ME) (ρ : Env) : dLst es ρ = (match dArgs es ρ with
  | none => none
  | some (rs, ρ1) => match shares rs ρ1 with
    | none => none
    | some (ds, ρ2) => if ds.length ≤ LIM then some (.tmp ds, ρ2) else none) := rfl
@[simp] theorem x_dOp1 (f : D → Option R) (a : ME) (ρ : Env) : dOp1 f a ρ = (match a ρ with
  | none => none
  | some (ra, ρ1) => match look ra ρ1 with
    | none => none
    | some x => match f x with
      | none => none
      | some r => some (r, ρ1)) := rfl
@[simp] theorem x_dOp2 (f : D → D → Option R) (a b : ME) (ρ : Env) : dOp2 f a b ρ = (match a ρ with
  | none => none
  | some (ra, ρ1) => match b ρ1 with
    | none => none
    | some (rb, ρ2) => match look ra ρ2, look rb ρ2 with
      | some x, some y => match f x y with
        | none => none
        | some r => some (r, ρ2)
      | _, _ => none) := rfl
@[simp] theorem x_dCmp (o : CO) (a b : ME) (ρ : Env) : dCmp o a b ρ = (dOp2 (fun x y => rB (fCmp o x y)) a b) ρ := rfl
@[simp] theorem x_dChain (o o' : CO) (a b c : ME) (ρ : Env) : dChain o o' a b c ρ = (match a ρ with
  | none => none
  | some (ra, ρ1) => match b ρ1 with
    | none => none
    | some (rb, ρ2) => match look ra ρ2, look rb ρ2 with
      | some x, some y => match fCmp o x y with
        | none => none
        | some false => some (.val (.bool false), ρ2)
        | some true => match c ρ2 with
          | none => none
          | some (rc, ρ3) => match look rb ρ3, look rc ρ3 with
            | some y', some z => match fCmp o' y' z with
              | none => none
              | some k => some (.val (.bool k), ρ3)
            | _, _ => none
      | _, _ => none) := rfl
@[simp] theorem x_tBool (a : ME) (ρ : Env) : tBool a ρ = (match a ρ with
  | some (.val (.bool k), ρ1) => some (k, ρ1)
  | _ => none) := rfl
@[simp] theorem x_tTru (a : ME) (ρ : Env) : tTru a ρ = (match a ρ with
  | none => none
  | some (r, ρ1) => match look r ρ1 with
    | none => none
    | some d => match truD d with
      | none => none
      | some k => some (k, ρ1)) := rfl
@[simp] theorem x_tNot (a : MT) (ρ : Env) : tNot a ρ = (match a ρ with
  | none => none
  | some (k, ρ1) => some (!k, ρ1)) := rfl
@[simp] theorem x_tAnd (a b : MT) (ρ : Env) : tAnd a b ρ = (match a ρ with
  | none => none
  | some (false, ρ1) => some (false, ρ1)
  | some (true, ρ1) => b ρ1) := rfl
@[simp] theorem x_tOr (a b : MT) (ρ : Env) : tOr a b ρ = (match a ρ with
  | none => none
  | some (true, ρ1) => some (true, ρ1)
  | some (false, ρ1) => b ρ1) := rfl
@[simp] theorem x_dNot (a : ME) (ρ : Env) : dNot a ρ = (match tTru a ρ with
  | none => none
  | some (k, ρ1) => some (.val (.bool (!k)), ρ1)) := rfl
@[simp] theorem x_dAnd (a b : ME) (ρ : Env) : dAnd a b ρ = (match a ρ with
  | none => none
  | some (r, ρ1) => match look r ρ1 with
    | none => none
    | some d => match truD d with
      | none => none
      | some false => some (r, ρ1)
      | some true => b ρ1) := rfl
@[simp] theorem x_dOr (a b : ME) (ρ : Env) : dOr a b ρ = (match a ρ with
  | none => none
  | some (r, ρ1) => match look r ρ1 with
    | none => none
    | some d => match truD d with
      | none => none
      | some true => some (r, ρ1)
      | some false => b ρ1) := rfl
@[simp] theorem x_dIf (c : MT) (a b : ME) (ρ : Env) : dIf c a b ρ = (match c ρ with
  | none => none
  | some (true, ρ1) => a ρ1
  | some (false, ρ1) => b ρ1) := rfl
@[simp] theorem x_dOpO (f : OV → D → Option R) (a b : ME) (ρ : Env) : dOpO f a b ρ = (match a ρ with
  | none => none
  | some (ra, ρ1) => match b ρ1 with
    | none => none
    | some (rb, ρ2) => match lookO ra ρ2, look rb ρ2 with
      | some x, some y => match f x y with
        | none => none
        | some r => some (r, ρ2)
      | _, _ => none) := rfl
@[simp] theorem x_dIx (a b : ME) (ρ : Env) : dIx a b ρ = (dOpO fIxO a b) ρ := rfl
@[simp] theorem x_dIn (neg : Bool) (a b : ME) (ρ : Env) : dIn neg a b ρ = (match a ρ with
  | none => none
  | some (ra, ρ1) => match b ρ1 with
    | none => none
    | some (rb, ρ2) => match look ra ρ2, lookO rb ρ2 with
      | some x, some c => match fInO neg c x with
        | none => none
        | some r => some (r, ρ2)
      | _, _ => none) := rfl
@[simp] theorem x_dLen (a : ME) (ρ : Env) : dLen a ρ = (match a ρ with
  | none => none
  | some (r, ρ1) => match lookO r ρ1 with
    | none => none
    | some x => match fLenO x with
      | none => none
      | some r => some (r, ρ1)) := rfl
@[simp] theorem x_dPart (e : Option ME) (ρ : Env) : dPart e ρ = (match e with
  | none => some (none, ρ)
  | some e => match e ρ with
    | some (.val (.int i), ρ1) => some (some i, ρ1)
    | _ => none) := rfl
@[simp] theorem x_dCut (a : ME) (lo hi : Option ME) (ρ : Env) : dCut a lo hi ρ = (match a ρ with
  | none => none
  | some (r, ρ1) => match dPart lo ρ1 with
    | none => none
    | some (l, ρ2) => match dPart hi ρ2 with
      | none => none
      | some (h, ρ3) => match look r ρ3 with
        | none => none
        | some x => match fCut l h x with
          | none => none
          | some r => some (r, ρ3)) := rfl
@[simp] theorem x_dCall (f : List D → Option (R × List D)) (es : List ME) (ρ : Env) : dCall f es ρ = (match dArgs es ρ with
  | none => none
  | some (rs, ρ1) => match shares rs ρ1 with
    | none => none
    | some (ds, ρ2) => match f ds with
      | none => none
      | some (.slot _, _) => none
      | some (r, _) => some (r, if r.clean then ρ1 else ρ2)) := rfl
@[simp] theorem x_dCallIO (f : List D → Option (R × List D)) (i : Nat) (es : List ME) (ρ : Env) : dCallIO f i es ρ = (if (get ρ i).isSome then match dArgs es ρ with
  | none => none
  | some (rs, ρ1) => match shares rs ρ1 with
    | none => none
    | some (ds, ρ2) => match get ρ2 i with
      | some (.own xs) => match f (.list xs :: ds) with
        | none => none
        | some (.slot _, _) => none
        | some (r, ys) => some (r, ρ2.set i (some (.own ys)))
      | some (.io xs) => match f (.list xs :: ds) with
        | none => none
        | some (.slot _, _) => none
        | some (r, ys) => some (r, ρ2.set i (some (.io ys)))
      | _ => none
  else none) := rfl
@[simp] theorem x_mSeq (a : ME) (ρ : Env) : mSeq a ρ = (match a ρ with
  | none => none
  | some (r, ρ1) => match share r ρ1 with
    | none => none
    | some (d, ρ2) => match itemsOf d with
      | none => none
      | some xs => some (xs, ρ2)) := rfl
@[simp] theorem x_mRng1 (a : ME) (ρ : Env) : mRng1 a ρ = (match dArgs [a] ρ with
  | some ([.val (.int j)], ρ1) => if small62 j then some (rngL 0 j, ρ1) else none
  | _ => none) := rfl
@[simp] theorem x_mRng2 (a b : ME) (ρ : Env) : mRng2 a b ρ = (match dArgs [a, b] ρ with
  | some ([.val (.int i), .val (.int j)], ρ1) => if small62 i && small62 j then some (rngL i j, ρ1) else none
  | _ => none) := rfl
@[simp] theorem x_mRngD (a b c : ME) (ρ : Env) : mRngD a b c ρ = (match dArgs [a, b, c] ρ with
  | some ([.val (.int i), .val (.int j), .val (.int (-1))], ρ1) => if small62 i && small62 j then some ((List.range (i - j).toNat).map fun (k : Nat) => .int (i + (k : Int) * (-1)), ρ1) else none
  | _ => none) := rfl
@[simp] theorem x_mEnum (a : ME) (ρ : Env) : mEnum a ρ = (match dArgs [a] ρ with
  | none => none
  | some (rs, ρ1) => match shares rs ρ1 with
    | some ([.list xs], ρ2) => some (enumL xs, ρ2)
    | some ([.tuple xs], ρ2) => some (enumL xs, ρ2)
    | _ => none) := rfl
@[simp] theorem x_mZip (a b : ME) (ρ : Env) : mZip a b ρ = (match dArgs [a, b] ρ with
  | none => none
  | some (rs, ρ1) => match shares rs ρ1 with
    | some ([.list xs, .list ys], ρ2) => some (zipL xs ys, ρ2)
    | some ([.tuple xs, .tuple ys], ρ2) => some (zipL xs ys, ρ2)
    | _ => none) := rfl
@[simp] theorem x_mLst (a : ME) (ρ : Env) : mLst a ρ = (match a ρ with
  | none => none
  | some (r, ρ1) => match share r ρ1 with
    | some (.list xs, ρ2) => some (xs, ρ2)
    | _ => none) := rfl
@[simp] theorem x_dEat (f : List D → Option R) (it : MI) (ρ : Env) : dEat f it ρ = (match it ρ with
  | none => none
  | some (xs, ρ1) => match f xs with
    | none => none
    | some r => some (r, ρ1)) := rfl
@[simp] theorem x_dPop (i : Nat) (e : Option ME) (ρ : Env) : dPop i e ρ = (if ownL ρ i then match dPart e ρ with
  | none => none
  | some (k, ρ1) => match get ρ1 i with
    | some (.own xs) => match L2.ixN xs.length (k.getD (-1)) with
      | none => none
      | some j => match xs[j]? with
        | none => none
        | some d => if small62 (k.getD (-1)) then some (.val d, ρ1.set i (some (.own (xs.eraseIdx j)))) else none
    | _ => none
  else none) := rfl
@[simp] theorem x_sAsg (i : Nat) (e : ME) (ρ : Env) : sAsg i e ρ = (match e ρ with
  | none => none
  | some (r, ρ1) => match put i r ρ1 with
    | none => none
    | some ρ2 => some (.nx, ρ2)) := rfl
@[simp] theorem x_sAsgG (g : MG) (e : ME) (ρ : Env) : sAsgG g e ρ = (match e ρ with
  | none => none
  | some (r, ρ1) => match share r ρ1 with
    | none => none
    | some (d, ρ2) => match g d ρ2 with
      | none => none
      | some ρ3 => some (.nx, ρ3)) := rfl
@[simp] theorem x_sPar (is : List Nat) (es : List ME) (ρ : Env) : sPar is es ρ = (match dArgs es ρ with
  | none => none
  | some (rs, ρ1) => match shares rs ρ1 with
    | none => none
    | some (ds, ρ2) => match gEach (is.map gName) ds ρ2 with
      | none => none
      | some ρ3 => some (.nx, ρ3)) := rfl
@[simp] theorem x_sSetIx (i : Nat) (k v : ME) (ρ : Env) : sSetIx i k v ρ = (match v ρ with
  | none => none
  | some (rv, ρ1) => if (get ρ1 i).isSome then match k ρ1 with
    | some (.val (.int j), ρ2) => match share rv ρ2 with
      | none => none
      | some (d, ρ3) => match get ρ3 i with
        | some c => match setAt c j d with
          | none => none
          | some c' => some (.nx, ρ3.set i (some c'))
        | _ => none
    | _ => none
  else none) := rfl
@[simp] theorem x_sAppend (i : Nat) (e : ME) (ρ : Env) : sAppend i e ρ = (if ownL ρ i then match e ρ with
  | none => none
  | some (r, ρ1) => match share r ρ1 with
    | none => none
    | some (d, ρ2) => match get ρ2 i with
      | some (.own xs) => if xs.length < LIM then some (.nx, ρ2.set i (some (.own (xs ++ [d])))) else none
      | _ => none
  else none) := rfl
@[simp] theorem x_sExtend (i : Nat) (e : ME) (ρ : Env) : sExtend i e ρ = (if ownL ρ i then match e ρ with
  | none => none
  | some (r, ρ1) => match look r ρ1 with
    | some (.list ys) => match get ρ1 i with
      | some (.own xs) => if xs.length + ys.length ≤ LIM then some (.nx, ρ1.set i (some (.own (xs ++ ys)))) else none
      | _ => none
    | _ => none
  else none) := rfl
@[simp] theorem x_sDrop (e : ME) (ρ : Env) : sDrop e ρ = (match e ρ with
  | none => none
  | some (_, ρ1) => some (.nx, ρ1)) := rfl
@[simp] theorem x_sRet (e : ME) (ρ : Env) : sRet e ρ = (match e ρ with
  | none => none
  | some (.slot i, ρ1) => match get ρ1 i with
    | some (.val d) => some (.ret (.val d), ρ1)
    | some (.own xs) => some (.ret (.tmp xs), ρ1)
    | some (.dc kvs) => some (.ret (.tdc kvs), ρ1)
    | _ => none
  | some (r, ρ1) => some (.ret r, ρ1)) := rfl
@[simp] theorem x_sIf (c : MT) (a b : MS) (ρ : Env) : sIf c a b ρ = (match c ρ with
  | none => none
  | some (true, ρ1) => a ρ1
  | some (false, ρ1) => b ρ1) := rfl
@[simp] theorem x_sSeq (a b : MS) (ρ : Env) : sSeq a b ρ = (match a ρ with
  | none => none
  | some (.nx, ρ1) => b ρ1
  | some (f, ρ1) => some (f, ρ1)) := rfl
@[simp] theorem x_sFor (g : MG) (it : MI) (body : MS) (ρ : Env) : sFor g it body ρ = (match it ρ with
  | none => none
  | some (xs, ρ1) => forL g body xs ρ1) := rfl
@[simp] theorem x_sAug (i : Nat) (f : D → D → Option R) (e : ME) (ρ : Env) : sAug i f e ρ = (match get ρ i with
  | some (.val x) => match e ρ with
    | none => none
    | some (r, ρ1) => match look r ρ1 with
      | none => none
      | some y => match f x y with
        | some (.val z) => some (.nx, ρ1.set i (some (.val z)))
        | _ => none
  | _ => none) := rfl
@[simp] theorem x_dAnyG (gen : MW) (ρ : Env) : dAnyG gen ρ = (match gen ρ with
  | none => none
  | some (_, st, ρ1) => some (.val (.bool st), ρ1)) := rfl
@[simp] theorem x_dAllG (gen : MW) (ρ : Env) : dAllG gen ρ = (match gen ρ with
  | none => none
  | some (_, st, ρ1) => some (.val (.bool (!st)), ρ1)) := rfl
@[simp] theorem x_dEatG (f : List D → Option R) (gen : MW) (ρ : Env) : dEatG f gen ρ = (match gen ρ with
  | none => none
  | some (ys, _, ρ1) => if ys.length ≤ LIM then match f ys with
      | none => none
      | some r => some (r, ρ1)
    else none) := rfl
end LH
end

section
set_option Elab.async false
set_option linter.all false
set_option maxRecDepth 100000
namespace LH
open PySem
/-! the script's digits, drawn one by one -/
def msDraw : MS := (sSeq (sAsg 2 (dIx (dVar 0) (dVal (.int 1))))
  (sSeq (sSetIx 0 (dVal (.int 1)) (dOp2 fAdd (dVar 2) (dVal (.int 1))))
  (sSeq (sIf (tBool (dCmp .lt (dVar 2) (dLen (dIx (dVar 0) (dVal (.int 0))))))
  (sRet (dOp2 fMod (dOp1 fInt (dIx (dIx (dVar 0) (dVal (.int 0))) (dVar 2))) (dVar 1)))
  sNil)
  (sRet (dVal (.int 0))))))
def msCell : MS := (sSeq (sIf (tBool (dCmp .lt (dVar 1) (dLen (dVar 0))))
  (sRet (dIx (dVar 0) (dVar 1)))
  sNil)
  (sRet (dVal (.int 0))))
def msDigitsIn : MS := (sIf (tBool (dCmp .gt (dVar 5) (dVal (.int 0))))
  (sSeq (sAppend 3 (dOp2 fMod (dOp1 fInt (dVar 5)) (dVal (.int 1000))))
  (sAsg 5 (dOp2 fDiv (dVar 5) (dVal (.int 1000)))))
  sNil)
def msDigitsIn2 : MS := (sSeq (sAsg 7 (dOp2 fMod (dOp1 fInt (dOp2 fAdd (dOp2 fAdd (dOp2 fMul (dVar 7) (dVal (.int 16807))) (dOp2 fMul (dVal (.int 7)) (dVar 6))) (dVal (.int 1)))) (dVal (.int 2147483647))))
  (sAppend 3 (dOp2 fMod (dOp1 fInt (dOp2 fDiv (dVar 7) (dVal (.int 997)))) (dVal (.int 1000)))))
def msDigitsTurn (cell : Sem) : MS := (sSeq (sAsg 5 (dCall cell [(dVar 0), (dVar 4)]))
  (sSeq (sIf (tBool (dCmp .lt (dVar 5) (dVal (.int 0))))
  (sAsg 5 (dOp2 fSub (dVal (.int 1)) (dOp2 fMul (dVal (.int 2)) (dVar 5))))
  sNil)
  (sIf (tBool (dCmp .ge (dVar 5) (dOp2 fPow (dVal (.int 10)) (dVal (.int 18)))))
  (sFor (gName 6) (mRng1 (dVal (.int 60)))
  msDigitsIn)
  (sSeq (sAsg 7 (dOp2 fMod (dOp1 fInt (dOp2 fAdd (dOp2 fAdd (dOp2 fMul (dVar 5) (dVal (.int 48271))) (dOp2 fMul (dVar 4) (dVal (.int 69621)))) (dVal (.int 11)))) (dVal (.int 2147483647))))
  (sFor (gName 6) (mRng1 (dVal (.int 12)))
  msDigitsIn2)))))
def msDigits (cell : Sem) : MS := (sSeq (sAsg 3 (dLst []))
  (sSeq (sFor (gName 4) (mRng2 (dVar 1) (dVar 2))
  (msDigitsTurn cell))
  (sRet (dVar 3))))
def msBox (digits : Sem) : MS := (sRet (dLst [(dCall digits [(dVar 0), (dVar 1), (dVar 2)]), (dVal (.int 0))]))
/-- the box: digits, and how many are drawn -/
def intsD (ds : List Nat) : List D := ds.map fun (d : Nat) => .int (d : Int)
def boxD (ds : List Nat) (at_ : Nat) : List D := [.list (intsD ds), .int (at_ : Int)]
def drawn (ds : List Nat) (at_ : Nat) (m : Nat) : Nat := match ds[at_]? with
  | some d => d % m
  | none => 0
theorem drawn_lt (ds : List Nat) (at_ : Nat) {m : Nat} (h : 0 < m) : drawn ds at_ m < m := by
  unfold drawn
  split
  · exact Nat.mod_lt _ h
  · exact h
theorem draw_spec (ds : List Nat) (at_ : Nat) {m : Nat} (h : 0 < m) : fnSem true 2 3 msDraw [.list (boxD ds at_), .int (m : Int)] = some (.val (.int (drawn ds at_ m : Nat)), boxD ds (at_ + 1)) := by
  refine fn_io (ρ := [some (.io (boxD ds (at_ + 1))), some (.val (.int m)), some (.val (.int at_))]) rfl ?_ rfl
  refine seq_nx (ρ1 := [some (.io (boxD ds at_)), some (.val (.int m)), some (.val (.int at_))]) rfl ?_
  refine seq_nx (ρ1 := [some (.io (boxD ds (at_ + 1))), some (.val (.int m)), some (.val (.int at_))]) rfl ?_
  have e : (tBool (dCmp .lt (dVar 2) (dLen (dIx (dVar 0) (dVal (.int 0)))))) [some (.io (boxD ds (at_ + 1))), some (.val (.int m)), some (.val (.int at_))] = some (decide ((at_ : Int) < ((ds.map fun (d : Nat) => PyData.int (d : Int)).length : Int)), [some (.io (boxD ds (at_ + 1))), some (.val (.int m)), some (.val (.int at_))]) := rfl
  rw [List.length_map] at e
  by_cases hl : at_ < ds.length
  · rw [decide_eq_true (by omega)] at e
    refine seq_ret (if_tt e ?_)
    have hm : (0 : Int) < (m : Int) := by omega
    unfold drawn
    rw [List.getElem?_eq_getElem hl]
    simp [lookO, look, fIxO, fIx, ixAt, L2.atI, L2.ixN, boxD, intsD, hl, fInt, fMod, hm, h]
  · rw [decide_eq_false (by omega)] at e
    refine seq_nx (if_ff e rfl) ?_
    unfold drawn
    rw [List.getElem?_eq_none (by omega)]
    rfl
def cellOf (ns : List Int) (k : Nat) : Int := (ns[k]?).getD 0
theorem cell_spec (ns : List Int) (k : Nat) : fnSem false 2 2 msCell [.list (ns.map .int), .int (k : Int)] = some (.val (.int (cellOf ns k)), []) := by
  have e : (tBool (dCmp .lt (dVar 1) (dLen (dVar 0)))) [some (.val (.list (ns.map .int))), some (.val (.int k))] = some (decide ((k : Int) < ((ns.map PyData.int).length : Int)), [some (.val (.list (ns.map .int))), some (.val (.int k))]) := rfl
  rw [List.length_map] at e
  refine fn_ret (ρ := [some (.val (.list (ns.map .int))), some (.val (.int k))]) rfl ?_
  by_cases hl : k < ns.length
  · rw [decide_eq_true (by omega)] at e
    refine seq_ret (if_tt e ?_)
    unfold cellOf
    rw [List.getElem?_eq_getElem hl]
    simp [lookO, look, fIxO, fIx, ixAt, L2.atI, L2.ixN, hl]
  · rw [decide_eq_false (by omega)] at e
    refine seq_nx (if_ff e rfl) ?_
    unfold cellOf
    rw [List.getElem?_eq_none (by omega)]
    rfl
theorem intsD_snoc (ds : List Nat) (x : Int) (h : 0 ≤ x) : intsD ds ++ [.int x] = intsD (ds ++ [x.toNat]) := by
  unfold intsD
  rw [List.map_append, List.map_cons, List.map_nil, Int.toNat_of_nonneg h]
theorem rngL_at {a b : Int} {i : Nat} {x : D} (h : (rngL a b)[i]? = some x) : x = .int (a + (i : Int)) ∧ (i : Int) < b - a := by
  unfold rngL at h
  rw [List.getElem?_map] at h
  obtain ⟨j, h1, h2⟩ := Option.map_eq_some_iff.mp h
  obtain ⟨h3, h4⟩ := List.getElem?_eq_some_iff.mp h1
  rw [List.getElem_range] at h4
  rw [List.length_range] at h3
  subst h4
  exact ⟨h2.symm, by omega⟩
/-- the inner loops' states -/
def DigI (S a b : D) (lim : Nat) (ρ : Env) : Prop := ∃ (ds : List Nat) (c s : Int) (k t : D), ρ = [some (.val S), some (.val a), some (.val b), some (.own (intsD ds)), some (.val k), some (.val (.int c)), some (.val t), some (.val (.int s))] ∧ ds.length ≤ lim
def DigJ (S a b : D) (lim : Nat) (ρ : Env) : Prop := ∃ (ds : List Nat) (c : Int) (k : D) (t s : Option SV), ρ = [some (.val S), some (.val a), some (.val b), some (.own (intsD ds)), some (.val k), some (.val (.int c)), t, s] ∧ canSet t = true ∧ canSet s = true ∧ ds.length ≤ lim
def DigO (S a b : D) (lim : Nat) (ρ : Env) : Prop := ∃ (ds : List Nat) (k c t s : Option SV), ρ = [some (.val S), some (.val a), some (.val b), some (.own (intsD ds)), k, c, t, s] ∧ canSet k = true ∧ canSet c = true ∧ canSet t = true ∧ canSet s = true ∧ ds.length ≤ lim
theorem intsD_len (ds : List Nat) : (intsD ds).length = ds.length := by unfold intsD; rw [List.length_map]
theorem small1 (x : Int) (y : Nat) (h : y < 2147483648) : (smallI x || smallI (y : Int)) = true := by
  unfold smallI
  rw [Bool.or_eq_true]
  right
  rw [Bool.and_eq_true, decide_eq_true_eq, decide_eq_true_eq]
  omega
theorem digits_in {S a b : D} {n : Nat} {ρ : Env} (h : DigJ S a b n ρ) (hn : n + 60 ≤ 16000000) : ∃ ρ', sFor (gName 6) (mRng1 (dVal (.int 60))) msDigitsIn ρ = some (.nx, ρ') ∧ DigJ S a b (n + 60) ρ' := by
  have e : sFor (gName 6) (mRng1 (dVal (.int 60))) msDigitsIn ρ = forL (gName 6) msDigitsIn (rngL 0 60) ρ := rfl
  rw [e]
  obtain ⟨ρ', h1, h2⟩ := forL_inv (g := gName 6) (body := msDigitsIn) (fun i ρ => DigJ S a b (n + i) ρ) (xs := rngL 0 60) (n := 0) (ρ := ρ) h fun i x ρ hx hI => by
    obtain ⟨rfl, hi⟩ := rngL_at hx
    obtain ⟨ds, c, k, t, s, rfl, ht, hs, hl⟩ := hI
    refine ⟨[some (.val S), some (.val a), some (.val b), some (.own (intsD ds)), some (.val k), some (.val (.int c)), some (.val (.int (0 + (i : Int)))), s], .nx, ?_⟩
    unfold msDigitsIn
    by_cases hc : 0 < c
    · refine ⟨[some (.val S), some (.val a), some (.val b), some (.own (intsD (ds ++ [(c % 1000).toNat]))), some (.val k), some (.val (.int (c / 1000))), some (.val (.int (0 + (i : Int)))), s], by simp [gName, ht], ?_, .inl rfl, ds ++ [(c % 1000).toNat], _, _, _, _, rfl, rfl, hs, by rw [List.length_append]; simp; omega⟩
      have h3 : (intsD ds).length < LIM := by rw [intsD_len]; unfold LIM; omega
      have h4 : 0 ≤ c % 1000 := by omega
      simp [look, fCmp, rB, fInt, fMod, fDiv, share, put, hc, h3, canSet, ownL, intsD_snoc _ _ h4]
    · refine ⟨[some (.val S), some (.val a), some (.val b), some (.own (intsD ds)), some (.val k), some (.val (.int c)), some (.val (.int (0 + (i : Int)))), s], by simp [gName, ht], ?_, .inl rfl, ds, _, _, _, _, rfl, rfl, hs, by omega⟩
      simp [look, fCmp, rB, hc, sNil]
  refine ⟨ρ', h1, ?_⟩
  have : n + (0 + (rngL 0 60).length) = n + 60 := rfl
  rw [this] at h2
  exact h2
theorem in2_a (s i : Int) (S a b k c : D) (ds : List Nat)  :
    sAsg 7 (dOp2 fMod (dOp1 fInt (dOp2 fAdd (dOp2 fAdd (dOp2 fMul (dVar 7) (dVal (.int 16807))) (dOp2 fMul (dVal (.int 7)) (dVar 6))) (dVal (.int 1)))) (dVal (.int 2147483647))) [some (.val S), some (.val a), some (.val b), some (.own (intsD ds)), some (.val k), some (.val c), some (.val (.int i)), some (.val (.int s))] =
    some (.nx, [some (.val S), some (.val a), some (.val b), some (.own (intsD ds)), some (.val k), some (.val c), some (.val (.int i)), some (.val (.int ((s * 16807 + 7 * i + 1) % 2147483647)))]) := by
  have s1 : smallI s = true ∨ smallI 16807 = true := .inr rfl
  have s2 : smallI 7 = true ∨ smallI i = true := .inl rfl
  simp [look, fInt, fMod, fMul, fAdd, put, canSet, s1, s2]
theorem in2_b (s i : Int) (S a b k c : D) (ds : List Nat) (h3 : (intsD ds).length < LIM) :
    sAppend 3 (dOp2 fMod (dOp1 fInt (dOp2 fDiv (dVar 7) (dVal (.int 997)))) (dVal (.int 1000))) [some (.val S), some (.val a), some (.val b), some (.own (intsD ds)), some (.val k), some (.val c), some (.val (.int i)), some (.val (.int s))] =
    some (.nx, [some (.val S), some (.val a), some (.val b), some (.own (intsD ds ++ [.int ((s / 997) % 1000)])), some (.val k), some (.val c), some (.val (.int i)), some (.val (.int s))]) := by
  simp [look, fInt, fMod, fDiv, share, h3, canSet, ownL]
theorem digits_in2 {S a b : D} {n : Nat} {ρ : Env} (h : ∃ (ds : List Nat) (c k : D) (s : Int) (t : Option SV), ρ = [some (.val S), some (.val a), some (.val b), some (.own (intsD ds)), some (.val k), some (.val c), t, some (.val (.int s))] ∧ canSet t = true ∧ ds.length ≤ n) (hn : n + 12 ≤ 16000000) :
    ∃ ρ', sFor (gName 6) (mRng1 (dVal (.int 12))) msDigitsIn2 ρ = some (.nx, ρ') ∧ DigO S a b (n + 12) ρ' := by
  have e : sFor (gName 6) (mRng1 (dVal (.int 12))) msDigitsIn2 ρ = forL (gName 6) msDigitsIn2 (rngL 0 12) ρ := rfl
  rw [e]
  obtain ⟨ρ', h1, h2⟩ := forL_inv (g := gName 6) (body := msDigitsIn2) (fun i ρ => ∃ (ds : List Nat) (c k : D) (s : Int) (t : Option SV), ρ = [some (.val S), some (.val a), some (.val b), some (.own (intsD ds)), some (.val k), some (.val c), t, some (.val (.int s))] ∧ canSet t = true ∧ ds.length ≤ n + i) (xs := rngL 0 12) (n := 0) (ρ := ρ)
    h fun i x ρ hx hI => by
    obtain ⟨rfl, hi⟩ := rngL_at hx
    obtain ⟨ds, c, k, s, t, rfl, ht, hl⟩ := hI
    have h3 : (intsD ds).length < LIM := by rw [intsD_len]; unfold LIM; omega
    refine ⟨[some (.val S), some (.val a), some (.val b), some (.own (intsD ds)), some (.val k), some (.val c), some (.val (.int (0 + (i : Int)))), some (.val (.int s))], .nx, _, by simp [gName, ht], seq_nx (in2_a _ _ _ _ _ _ _ _) (in2_b _ _ _ _ _ _ _ _ h3), .inl rfl, ?_⟩
    rw [intsD_snoc _ _ (Int.emod_nonneg _ (by decide))]
    exact ⟨_, _, _, _, _, rfl, rfl, by rw [List.length_append]; simp; omega⟩
  refine ⟨ρ', h1, ?_⟩
  obtain ⟨ds, c, k, s, t, q1, q2, q4⟩ := h2
  have : n + (0 + (rngL 0 12).length) = n + 12 := rfl
  rw [this] at q4
  exact ⟨ds, _, _, _, _, q1, rfl, rfl, q2, rfl, q4⟩
def posOf (v : Int) : Int := if v < 0 then 1 - 2 * v else v
theorem dt_a {cell : Sem} {ns : List Int} {a b : D} {ds : List Nat} {j : Nat} {v : Int} {c t s : Option SV} (hc : cell [.list (ns.map .int), .int (j : Int)] = some (.val (.int v), [])) (h1 : canSet c = true) :
    sAsg 5 (dCall cell [(dVar 0), (dVar 4)]) [some (.val (.list (ns.map .int))), some (.val a), some (.val b), some (.own (intsD ds)), some (.val (.int (j : Int))), c, t, s] = some (.nx, [some (.val (.list (ns.map .int))), some (.val a), some (.val b), some (.own (intsD ds)), some (.val (.int (j : Int))), some (.val (.int v)), t, s]) := by
  simp [dArgs, shares, share, hc, R.clean, noLst, put, h1]
theorem dt_b {S a b k : D} {o : List D} {v : Int} {t s : Option SV} :
    (sIf (tBool (dCmp .lt (dVar 5) (dVal (.int 0)))) (sAsg 5 (dOp2 fSub (dVal (.int 1)) (dOp2 fMul (dVal (.int 2)) (dVar 5)))) sNil) [some (.val S), some (.val a), some (.val b), some (.own o), some (.val k), some (.val (.int v)), t, s] = some (.nx, [some (.val S), some (.val a), some (.val b), some (.own o), some (.val k), some (.val (.int (posOf v))), t, s]) := by
  have sm2 : smallI 2 = true := rfl
  unfold posOf
  by_cases hv : v < 0
  · simp [look, fCmp, rB, hv, fSub, fMul, put, canSet, sm2]
  · simp [look, fCmp, rB, hv, sNil]
theorem dt_c {S a b k : D} {o : List D} {u : Int} {t s : Option SV} :
    (tBool (dCmp .ge (dVar 5) (dOp2 fPow (dVal (.int 10)) (dVal (.int 18))))) [some (.val S), some (.val a), some (.val b), some (.own o), some (.val k), some (.val (.int u)), t, s] = some (decide ((1000000000000000000 : Int) ≤ u), [some (.val S), some (.val a), some (.val b), some (.own o), some (.val k), some (.val (.int u)), t, s]) := by
  generalize hN : (1000000000000000000 : Int) = N
  have e : fPow (.int 10) (.int 18) = some (.val (.int N)) := by rw [← hN]; rfl
  simp [look, fCmp, rB, e]
theorem dt_d {S a b : D} {o : List D} {u j : Int} {t s : Option SV} (h3 : canSet s = true) :
    sAsg 7 (dOp2 fMod (dOp1 fInt (dOp2 fAdd (dOp2 fAdd (dOp2 fMul (dVar 5) (dVal (.int 48271))) (dOp2 fMul (dVar 4) (dVal (.int 69621)))) (dVal (.int 11)))) (dVal (.int 2147483647))) [some (.val S), some (.val a), some (.val b), some (.own o), some (.val (.int j)), some (.val (.int u)), t, s] = some (.nx, [some (.val S), some (.val a), some (.val b), some (.own o), some (.val (.int j)), some (.val (.int u)), t, some (.val (.int ((u * 48271 + j * 69621 + 11) % 2147483647)))]) := by
  have s1 : smallI u = true ∨ smallI 48271 = true := .inr rfl
  have s2 : smallI j = true ∨ smallI 69621 = true := .inr rfl
  simp [look, fInt, fMod, fAdd, fMul, put, h3, s1, s2]
theorem digits_turn {cell : Sem} {ns : List Int} {b : D} (hc : ∀ k : Nat, cell [.list (ns.map .int), .int (k : Int)] = some (.val (.int (cellOf ns k)), [])) {n : Nat} {ds : List Nat} {j : Nat} {c t s : Option SV} (hj : j < 64) (h1 : canSet c = true) (h2 : canSet t = true) (h3 : canSet s = true) (hl : ds.length ≤ n) (hn : n + 60 ≤ 16000000) (a : D) :
    ∃ ρ', msDigitsTurn cell [some (.val (.list (ns.map .int))), some (.val a), some (.val b), some (.own (intsD ds)), some (.val (.int (j : Int))), c, t, s] = some (.nx, ρ') ∧ DigO (.list (ns.map .int)) a b (n + 60) ρ' := by
  unfold msDigitsTurn
  have e3 := dt_c (S := .list (ns.map .int)) (a := a) (b := b) (k := .int (j : Int)) (o := intsD ds) (u := posOf (cellOf ns j)) (t := t) (s := s)
  by_cases hb : (1000000000000000000 : Int) ≤ posOf (cellOf ns j)
  · rw [decide_eq_true hb] at e3
    obtain ⟨ρ', q1, q2⟩ := digits_in (S := .list (ns.map .int)) (a := a) (b := b) (n := n) (ρ := [some (.val (.list (ns.map .int))), some (.val a), some (.val b), some (.own (intsD ds)), some (.val (.int (j : Int))), some (.val (.int (posOf (cellOf ns j)))), t, s]) ⟨ds, _, _, _, _, rfl, h2, h3, hl⟩ hn
    refine ⟨ρ', seq_nx (dt_a (hc j) h1) (seq_nx dt_b (if_tt e3 q1)), ?_⟩
    obtain ⟨ds', c', k', t', s', z1, z2, z3, z4⟩ := q2
    exact ⟨ds', _, _, _, _, z1, rfl, rfl, z2, z3, z4⟩
  · rw [decide_eq_false hb] at e3
    obtain ⟨ρ', q1, q2⟩ := digits_in2 (S := .list (ns.map .int)) (a := a) (b := b) (n := n) (ρ := [some (.val (.list (ns.map .int))), some (.val a), some (.val b), some (.own (intsD ds)), some (.val (.int (j : Int))), some (.val (.int (posOf (cellOf ns j)))), t, some (.val (.int ((posOf (cellOf ns j) * 48271 + (j : Int) * 69621 + 11) % 2147483647)))]) ⟨ds, _, _, _, _, rfl, h2, hl⟩ (by omega)
    refine ⟨ρ', seq_nx (dt_a (hc j) h1) (seq_nx dt_b (if_ff e3 (seq_nx (dt_d h3) q1))), ?_⟩
    obtain ⟨ds', k', c', t', s', z1, z2, z3, z4, z5, z6⟩ := q2
    exact ⟨ds', _, _, _, _, z1, z2, z3, z4, z5, by omega⟩
theorem rng2_run {a b : ME} {ρ ρ1 : Env} {i j : Int} (h : dArgs [a, b] ρ = some ([.val (.int i), .val (.int j)], ρ1)) (s : (small62 i && small62 j) = true) : mRng2 a b ρ = some (rngL i j, ρ1) := by
  unfold mRng2; rw [h]; dsimp only; rw [if_pos s]
theorem rng1_run {a : ME} {ρ ρ1 : Env} {j : Int} (h : dArgs [a] ρ = some ([.val (.int j)], ρ1)) (s : small62 j = true) : mRng1 a ρ = some (rngL 0 j, ρ1) := by
  unfold mRng1; rw [h]; dsimp only; rw [if_pos s]
theorem digits_spec {cell : Sem} {ns : List Int} (hc : ∀ k : Nat, cell [.list (ns.map .int), .int (k : Int)] = some (.val (.int (cellOf ns k)), [])) (m : Nat) (hm : m ≤ 64) :
    ∃ ds : List Nat, fnSem false 3 8 (msDigits cell) [.list (ns.map .int), .int 0, .int (m : Int)] = some (.tmp (intsD ds), []) := by
  have sm : small62 (m : Int) = true := by
    unfold small62
    rw [Bool.and_eq_true, decide_eq_true_eq, decide_eq_true_eq]
    omega
  have sm0 : small62 0 = true := rfl
  have e0 : sAsg 3 (dLst []) [some (.val (.list (ns.map .int))), some (.val (.int 0)), some (.val (.int (m : Int))), none, none, none, none, none] = some (.nx, [some (.val (.list (ns.map .int))), some (.val (.int 0)), some (.val (.int (m : Int))), some (.own (intsD [])), none, none, none, none]) := rfl
  have e1 : sFor (gName 4) (mRng2 (dVar 1) (dVar 2)) (msDigitsTurn cell) [some (.val (.list (ns.map .int))), some (.val (.int 0)), some (.val (.int (m : Int))), some (.own (intsD [])), none, none, none, none] = forL (gName 4) (msDigitsTurn cell) (rngL 0 m) [some (.val (.list (ns.map .int))), some (.val (.int 0)), some (.val (.int (m : Int))), some (.own (intsD [])), none, none, none, none] := by
    have q : mRng2 (dVar 1) (dVar 2) [some (.val (.list (ns.map .int))), some (.val (.int 0)), some (.val (.int (m : Int))), some (.own (intsD [])), none, none, none, none] = some (rngL 0 m, [some (.val (.list (ns.map .int))), some (.val (.int 0)), some (.val (.int (m : Int))), some (.own (intsD [])), none, none, none, none]) := by
      have w : (small62 0 && small62 (m : Int)) = true := by rw [sm0, sm, Bool.and_self]
      exact rng2_run (i := 0) (j := (m : Int)) rfl w
    rw [x_sFor, q]
  obtain ⟨ρ', h1, h2⟩ := forL_inv (g := gName 4) (body := msDigitsTurn cell) (fun i ρ => DigO (.list (ns.map .int)) (.int 0) (.int (m : Int)) (60 * i) ρ) (xs := rngL 0 m) (n := 0) (ρ := [some (.val (.list (ns.map .int))), some (.val (.int 0)), some (.val (.int (m : Int))), some (.own (intsD [])), none, none, none, none])
    ⟨[], _, _, _, _, rfl, rfl, rfl, rfl, rfl, Nat.zero_le _⟩ fun i x ρ hx hI => by
    obtain ⟨rfl, hi⟩ := rngL_at hx
    obtain ⟨ds, k, c, t, s, rfl, g1, g2, g3, g4, g5⟩ := hI
    have ei : (0 : Int) + (i : Int) = (i : Int) := by omega
    obtain ⟨ρ2, q1, q2⟩ := digits_turn (b := .int (m : Int)) hc (n := 60 * (0 + i)) (ds := ds) (j := i) (by omega) g2 g3 g4 g5 (by omega) (.int 0)
    refine ⟨[some (.val (.list (ns.map .int))), some (.val (.int 0)), some (.val (.int (m : Int))), some (.own (intsD ds)), some (.val (.int (i : Int))), c, t, s], .nx, ρ2, by rw [ei]; simp [gName, g1], q1, .inl rfl, ?_⟩
    rw [show 60 * (0 + i + 1) = 60 * (0 + i) + 60 by omega]
    exact q2
  obtain ⟨ds, k, c, t, s, rfl, _⟩ := h2
  refine ⟨ds, fn_ret (ρ := [some (.val (.list (ns.map .int))), some (.val (.int 0)), some (.val (.int (m : Int))), some (.own (intsD ds)), k, c, t, s]) rfl ?_⟩
  unfold msDigits
  exact seq_nx e0 (seq_nx (e1.trans h1) rfl)
theorem noLstL_ints : ∀ ds : List Nat, noLstL (intsD ds) = true
  | [] => rfl
  | d :: ds => by
    show (noLst (.int (d : Int)) && noLstL (intsD ds)) = true
    rw [noLstL_ints ds]; rfl
theorem box_spec {digits : Sem} {ns : List Int} {m : Nat} (hd : ∃ ds : List Nat, digits [.list (ns.map .int), .int 0, .int (m : Int)] = some (.tmp (intsD ds), [])) :
    ∃ ds : List Nat, fnSem false 3 3 (msBox digits) [.list (ns.map .int), .int 0, .int (m : Int)] = some (.tmp (boxD ds 0), []) := by
  obtain ⟨ds, h⟩ := hd
  refine ⟨ds, fn_ret (ρ := [some (.val (.list (ns.map .int))), some (.val (.int 0)), some (.val (.int (m : Int)))]) rfl ?_⟩
  unfold msBox
  have e : dCall digits [(dVar 0), (dVar 1), (dVar 2)] [some (.val (.list (ns.map .int))), some (.val (.int 0)), some (.val (.int (m : Int)))] = some (.tmp (intsD ds), [some (.val (.list (ns.map .int))), some (.val (.int 0)), some (.val (.int (m : Int)))]) := by
    simp [dArgs, shares, share, h, R.clean, noLstL_ints]
  have e2 : dArgs [dCall digits [(dVar 0), (dVar 1), (dVar 2)], dVal (.int 0)] [some (.val (.list (ns.map .int))), some (.val (.int 0)), some (.val (.int (m : Int)))] = some ([.tmp (intsD ds), .val (.int 0)], [some (.val (.list (ns.map .int))), some (.val (.int 0)), some (.val (.int (m : Int)))]) := by
    unfold dArgs; rw [e]; rfl
  have e3 : dLst [dCall digits [(dVar 0), (dVar 1), (dVar 2)], dVal (.int 0)] [some (.val (.list (ns.map .int))), some (.val (.int 0)), some (.val (.int (m : Int)))] = some (.tmp (boxD ds 0), [some (.val (.list (ns.map .int))), some (.val (.int 0)), some (.val (.int (m : Int)))]) := by
    rw [x_dLst, e2]
    rfl
  show sRet _ [some (.val (.list (ns.map .int))), some (.val (.int 0)), some (.val (.int (m : Int)))] = _
  rw [x_sRet, e3]
end LH
end

section
set_option Elab.async false
set_option linter.all false
set_option maxRecDepth 100000
/-! The same meanings, for the kernel: what is handed on is brought to normal form. -/
namespace LH
open PySem
section
variable {α : Type}
noncomputable def nrmN (n : Nat) (k : Nat → α) : α := Nat.rec (k 0) (fun p _ => k (Nat.succ p)) n
theorem nrmN_eq (n : Nat) (k : Nat → α) : nrmN n k = k n := by cases n <;> rfl
noncomputable def nrmI (i : Int) (k : Int → α) : α := Int.rec (fun n => nrmN n fun m => k (.ofNat m)) (fun n => nrmN n fun m => k (.negSucc m)) i
theorem nrmI_eq (i : Int) (k : Int → α) : nrmI i k = k i := by cases i with
  | ofNat n => exact nrmN_eq n fun m => k (.ofNat m)
  | negSucc n => exact nrmN_eq n fun m => k (.negSucc m)
noncomputable def nrm (d : PyData) : (PyData → α) → α :=
  PyData.rec (motive_1 := fun _ => (PyData → α) → α) (motive_2 := fun _ => (List PyData → α) → α) (motive_3 := fun _ => (List (PyData × PyData) → α) → α) (motive_4 := fun _ => (PyData × PyData → α) → α)
    (fun k => k .none) (fun b k => Bool.rec (k (.bool false)) (k (.bool true)) b) (fun i k => nrmI i fun j => k (.int j)) (fun x k => k (.str x)) (fun _ r k => r fun l => k (.list l)) (fun _ r k => r fun l => k (.tuple l)) (fun kvs _ k => k (.dict kvs))
    (fun k => k []) (fun _ _ a b k => a fun x => b fun xs => k (x :: xs)) (fun k => k []) (fun _ _ a b k => a fun x => b fun xs => k (x :: xs)) (fun _ _ a b k => a fun x => b fun y => k (x, y)) d
noncomputable def nrmL (d : List PyData) : (List PyData → α) → α :=
  PyData.rec_1 (motive_1 := fun _ => (PyData → α) → α) (motive_2 := fun _ => (List PyData → α) → α) (motive_3 := fun _ => (List (PyData × PyData) → α) → α) (motive_4 := fun _ => (PyData × PyData → α) → α)
    (fun k => k .none) (fun b k => Bool.rec (k (.bool false)) (k (.bool true)) b) (fun i k => nrmI i fun j => k (.int j)) (fun x k => k (.str x)) (fun _ r k => r fun l => k (.list l)) (fun _ r k => r fun l => k (.tuple l)) (fun kvs _ k => k (.dict kvs))
    (fun k => k []) (fun _ _ a b k => a fun x => b fun xs => k (x :: xs)) (fun k => k []) (fun _ _ a b k => a fun x => b fun xs => k (x :: xs)) (fun _ _ a b k => a fun x => b fun y => k (x, y)) d
theorem nrm_both : (∀ (d : PyData) (k : PyData → α), nrm d k = k d) := fun d =>
  PyData.rec (motive_1 := fun d => ∀ k : PyData → α, nrm d k = k d) (motive_2 := fun l => ∀ k : List PyData → α, nrmL l k = k l) (motive_3 := fun _ => True) (motive_4 := fun _ => True)
    (fun k => rfl) (fun b k => by cases b <;> rfl) (fun i k => nrmI_eq i (fun j => k (.int j))) (fun x k => rfl) (fun l r k => r _) (fun l r k => r _) (fun kvs _ k => rfl)
    (fun k => rfl) (fun x xs a b k => (a _).trans (b _)) trivial (fun _ _ _ _ => trivial) (fun _ _ _ _ => trivial) d
theorem nrm_eq (d : PyData) (k : PyData → α) : nrm d k = k d := nrm_both d k
theorem nrmL_eq : ∀ (l : List PyData) (k : List PyData → α), nrmL l k = k l
  | [], k => rfl
  | x :: xs, k => (nrm_eq x _).trans (nrmL_eq xs _)
noncomputable def nrmR (r : R) (k : R → α) : α := match r with
  | .val d => nrm d fun d => k (.val d)
  | .tmp xs => nrmL xs fun xs => k (.tmp xs)
  | r => k r
theorem nrmR_eq (r : R) (k : R → α) : nrmR r k = k r := by cases r <;> first | rfl | exact nrm_eq _ _ | exact nrmL_eq _ _
end
noncomputable def dCallN (f : List D → Option (R × List D)) (es : List ME) : ME := fun ρ => match dArgs es ρ with
  | none => none
  | some (rs, ρ1) => match shares rs ρ1 with
    | none => none
    | some (ds, ρ2) => nrmL ds fun ds => match f ds with
      | none => none
      | some (.slot _, _) => none
      | some (r, _) => some (r, if r.clean then ρ1 else ρ2)
theorem dCallN_eq : dCallN = dCall := by
  funext f es ρ
  unfold dCallN dCall
  cases dArgs es ρ with
  | none => rfl
  | some p =>
    obtain ⟨rs, ρ1⟩ := p
    dsimp only
    cases shares rs ρ1 with
    | none => rfl
    | some q => exact nrmL_eq _ _
noncomputable def sAsgN (i : Nat) (e : ME) : MS := fun ρ => match e ρ with
  | none => none
  | some (r, ρ1) => nrmR r fun r => match put i r ρ1 with
    | none => none
    | some ρ2 => some (.nx, ρ2)
theorem sAsgN_eq : sAsgN = sAsg := by
  funext i e ρ
  unfold sAsgN sAsg
  cases e ρ with
  | none => rfl
  | some p => exact nrmR_eq _ _
noncomputable def gNameN (i : Nat) : MG := fun d ρ => nrm d fun d => if i < ρ.length ∧ canSet (get ρ i) then some (ρ.set i (some (.val d))) else none
theorem gNameN_eq : gNameN = gName := by
  funext i d ρ
  unfold gNameN gName
  rw [nrm_eq]
end LH
end

section
set_option Elab.async false
set_option linter.all false
set_option maxRecDepth 100000
/-! Words for running texts by hand, further: said of any parts, so that no big number is looked into. -/
namespace LH
open PySem
theorem comp_run {own : List Nat} {elt : ME} {it : MI} {g : MG} {ifs : MT} {cs : List Cl} {ρ ρ1 ρ2 : Env} {xs ys : List D} (h : it ρ = some (xs, ρ1)) (hw : walk (turn own g ifs (clauses (emit1 elt) cs)) xs (wipeE ρ1 own) = some (ys, ρ2)) (hl : ys.length ≤ LIM) :
    dComp own elt it g ifs cs ρ = some (.tmp ys, back ρ1 ρ2 own) := by
  unfold dComp comp
  rw [h]; dsimp only
  rw [hw]; dsimp only
  rw [if_pos hl]
theorem seq_tmp {e : ME} {ρ ρ1 : Env} {xs : List D} (h : e ρ = some (.tmp xs, ρ1)) : mSeq e ρ = some (xs, ρ1) := by
  unfold mSeq
  rw [h]; rfl
theorem eat_run {f : List D → Option R} {it : MI} {ρ ρ1 : Env} {xs : List D} {r : R} (h : it ρ = some (xs, ρ1)) (hf : f xs = some r) : dEat f it ρ = some (r, ρ1) := by
  unfold dEat
  rw [h]; dsimp only
  rw [hf]
theorem for_run {g : MG} {it : MI} {body : MS} {ρ ρ1 : Env} {xs : List D} {x : Option (Fl × Env)} (h : it ρ = some (xs, ρ1)) (h2 : forL g body xs ρ1 = x) : sFor g it body ρ = x := by
  unfold sFor
  rw [h]; exact h2
theorem small_nat {v : Nat} (h : v ≤ 1000000) : small62 (v : Int) = true := by
  unfold small62
  rw [Bool.and_eq_true, decide_eq_true_eq, decide_eq_true_eq]
  omega
theorem rngL_len (v : Nat) : (rngL 0 (v : Int)).length = v := by unfold rngL; rw [List.length_map, List.length_range]; omega
theorem lim_nat {v : Nat} (h : v ≤ 1000000) : v ≤ LIM := by unfold LIM; omega
theorem no_run {c : MT} {ρ : Env} (h : c ρ = some (false, ρ)) : sIf c (sRet (dVal (.bool false))) sNil ρ = some (.nx, ρ) := if_ff h rfl
theorem asg_tmp {i : Nat} {e : ME} {ρ ρ1 : Env} {xs : List D} (h : e ρ = some (.tmp xs, ρ1)) (hl : i < ρ1.length) (hc : canSet (get ρ1 i) = true) : sAsgN i e ρ = some (.nx, ρ1.set i (some (.own xs))) := by
  rw [sAsgN_eq, x_sAsg, h]
  dsimp only
  unfold put
  rw [if_pos ⟨hl, hc⟩]
theorem asg_val {i : Nat} {e : ME} {ρ ρ1 : Env} {d : D} (h : e ρ = some (.val d, ρ1)) (hl : i < ρ1.length) (hc : canSet (get ρ1 i) = true) : sAsgN i e ρ = some (.nx, ρ1.set i (some (.val d))) := by
  rw [sAsgN_eq, x_sAsg, h]
  dsimp only
  unfold put
  rw [if_pos ⟨hl, hc⟩]
theorem intsD_all (r : List Nat) : (intsD r).length = r.length := by unfold intsD; rw [List.length_map]
end LH
end

section
set_option Elab.async false
set_option linter.all false
set_option maxRecDepth 100000
set_option maxHeartbeats 0
namespace K84
open PySem PySem.Spec PyProof.Rows L2 LH
def top (i : Nat) : Stmt := PySem.Challenge.pw_latticehouse_k84_brackets_are_a_lattice.main.body.getD i (.Pass ⟨0, 0, 0, 0⟩)
def r0 : DefRow := ⟨"brackets", top 1, ["many", "known", "size", "found", "place", "left", "right"], ["many"], false⟩
def r1 : DefRow := ⟨"size_of", top 2, ["tree"], ["tree"], false⟩
def r2 : DefRow := ⟨"turned_right", top 3, ["tree", "found", "left", "right", "other"], ["tree"], false⟩
def r3 : DefRow := ⟨"mirrored", top 4, ["tree"], ["tree"], false⟩
def r4 : DefRow := ⟨"reach", top 5, ["tree"], ["tree"], false⟩
def r5 : DefRow := ⟨"is_reach", top 6, ["row", "many", "other", "place", "own"], ["row"], false⟩
def r6 : DefRow := ⟨"tree_of", top 7, ["row", "place", "at"], ["row"], false⟩
def r7 : DefRow := ⟨"is_right_of", top 8, ["tree", "other", "one", "two"], ["tree", "other"], false⟩
def r8 : DefRow := ⟨"lattice_of_brackets", top 9, ["many", "rows", "above", "row", "place", "other"], ["many"], false⟩
def r9 : DefRow := ⟨"meet_reach", top 10, ["row", "other", "one", "two"], ["row", "other"], false⟩
def r10 : DefRow := ⟨"join_brackets", top 11, ["tree", "other", "row"], ["tree", "other"], false⟩
def r11 : DefRow := ⟨"meet_brackets", top 12, ["tree", "other"], ["tree", "other"], false⟩
def r12 : DefRow := ⟨"write_brackets", top 13, ["tree"], ["tree"], false⟩
def r13 : DefRow := ⟨"count_brackets", top 14, ["many", "found", "size", "place"], ["many"], false⟩
def r14 : DefRow := ⟨"is_number", top 16, ["value", "many"], ["value", "many"], false⟩
def r15 : DefRow := ⟨"is_set", top 17, ["value", "many", "one", "other"], ["value", "many"], false⟩
def r16 : DefRow := ⟨"is_part", top 18, ["part", "whole", "one"], ["part", "whole"], false⟩
def r17 : DefRow := ⟨"shared", top 19, ["one", "other", "number"], ["one", "other"], false⟩
def r18 : DefRow := ⟨"is_order_of", top 21, ["value", "kind", "_", "many", "above", "own", "row", "other"], ["value", "kind"], false⟩
def r19 : DefRow := ⟨"below_of", top 22, ["lattice", "_", "many", "above", "own", "other"], ["lattice"], false⟩
def r20 : DefRow := ⟨"least_of", top 23, ["lattice", "members", "found", "one"], ["lattice", "members"], false⟩
def r21 : DefRow := ⟨"join_of", top 24, ["lattice", "x", "y"], ["lattice", "x", "y"], false⟩
def r22 : DefRow := ⟨"turned_over", top 25, ["lattice"], ["lattice"], false⟩
def r23 : DefRow := ⟨"has_joins", top 26, ["lattice", "many", "x", "y"], ["lattice"], false⟩
def r24 : DefRow := ⟨"is_lattice", top 27, ["lattice"], ["lattice"], false⟩
def r25 : DefRow := ⟨"_law_size", top 29, ["tree"], ["tree"], false⟩
def r26 : DefRow := ⟨"_law_box", top 30, ["script", "first", "last"], ["script", "first", "last"], false⟩
def r27 : DefRow := ⟨"_law_digits", top 31, ["script", "first", "last", "digits", "k", "cell", "turn", "seed"], ["script", "first", "last"], false⟩
def r28 : DefRow := ⟨"_law_cell", top 32, ["script", "k"], ["script", "k"], false⟩
def r29 : DefRow := ⟨"_law_draw", top 33, ["box", "many", "at"], ["box", "many"], true⟩
def r30 : DefRow := ⟨"_law_all_brackets", top 34, ["many", "known", "size", "found", "k", "left", "right"], ["many"], false⟩
def r31 : DefRow := ⟨"_law_same", top 35, ["actual", "expected", "k"], ["actual", "expected"], false⟩
def r32 : DefRow := ⟨"_law_moves", top 36, ["tree", "found", "left", "right", "more"], ["tree"], false⟩
def r33 : DefRow := ⟨"_law_reach", top 37, ["many", "pairs", "above", "x", "found", "k", "y"], ["many", "pairs"], false⟩
def r34 : DefRow := ⟨"_law_inside", top 38, ["one", "other", "k"], ["one", "other"], false⟩
def r35 : DefRow := ⟨"_law_reach_row", top 39, ["tree"], ["tree"], false⟩
def r36 : DefRow := ⟨"_law_text", top 40, ["tree"], ["tree"], false⟩
def r37 : DefRow := ⟨"_law_mirror", top 41, ["tree"], ["tree"], false⟩
def r38 : DefRow := ⟨"law", top 42, ["script", "box", "many", "rows", "pairs", "k", "above", "lattice", "reaches", "turn", "x", "y", "high", "join", "low", "meet", "row", "tree", "z", "more", "w"], ["script"], false⟩
def rows : List DefRow := [r0, r1, r2, r3, r4, r5, r6, r7, r8, r9, r10, r11, r12, r13, r14, r15, r16, r17, r18, r19, r20, r21, r22, r23, r24, r25, r26, r27, r28, r29, r30, r31, r32, r33, r34, r35, r36, r37, r38]
theorem st0 : RowSt r0 := ⟨⟨rfl, rfl, rfl, by decide +kernel, rfl, by decide +kernel, by decide +kernel⟩, by decide +kernel, rfl, fun _ _ _ _ _ _ us hl => match us, hl with | [_], _ => rfl⟩
theorem st1 : RowSt r1 := ⟨⟨rfl, rfl, rfl, by decide +kernel, rfl, by decide +kernel, by decide +kernel⟩, by decide +kernel, rfl, fun _ _ _ _ _ _ us hl => match us, hl with | [_], _ => rfl⟩
theorem st2 : RowSt r2 := ⟨⟨rfl, rfl, rfl, by decide +kernel, rfl, by decide +kernel, by decide +kernel⟩, by decide +kernel, rfl, fun _ _ _ _ _ _ us hl => match us, hl with | [_], _ => rfl⟩
theorem st3 : RowSt r3 := ⟨⟨rfl, rfl, rfl, by decide +kernel, rfl, by decide +kernel, by decide +kernel⟩, by decide +kernel, rfl, fun _ _ _ _ _ _ us hl => match us, hl with | [_], _ => rfl⟩
theorem st4 : RowSt r4 := ⟨⟨rfl, rfl, rfl, by decide +kernel, rfl, by decide +kernel, by decide +kernel⟩, by decide +kernel, rfl, fun _ _ _ _ _ _ us hl => match us, hl with | [_], _ => rfl⟩
theorem st5 : RowSt r5 := ⟨⟨rfl, rfl, rfl, by decide +kernel, rfl, by decide +kernel, by decide +kernel⟩, by decide +kernel, rfl, fun _ _ _ _ _ _ us hl => match us, hl with | [_], _ => rfl⟩
theorem st6 : RowSt r6 := ⟨⟨rfl, rfl, rfl, by decide +kernel, rfl, by decide +kernel, by decide +kernel⟩, by decide +kernel, rfl, fun _ _ _ _ _ _ us hl => match us, hl with | [_], _ => rfl⟩
theorem st7 : RowSt r7 := ⟨⟨rfl, rfl, rfl, by decide +kernel, rfl, by decide +kernel, by decide +kernel⟩, by decide +kernel, rfl, fun _ _ _ _ _ _ us hl => match us, hl with | [_, _], _ => rfl⟩
theorem st8 : RowSt r8 := ⟨⟨rfl, rfl, rfl, by decide +kernel, rfl, by decide +kernel, by decide +kernel⟩, by decide +kernel, rfl, fun _ _ _ _ _ _ us hl => match us, hl with | [_], _ => rfl⟩
theorem st9 : RowSt r9 := ⟨⟨rfl, rfl, rfl, by decide +kernel, rfl, by decide +kernel, by decide +kernel⟩, by decide +kernel, rfl, fun _ _ _ _ _ _ us hl => match us, hl with | [_, _], _ => rfl⟩
theorem st10 : RowSt r10 := ⟨⟨rfl, rfl, rfl, by decide +kernel, rfl, by decide +kernel, by decide +kernel⟩, by decide +kernel, rfl, fun _ _ _ _ _ _ us hl => match us, hl with | [_, _], _ => rfl⟩
theorem st11 : RowSt r11 := ⟨⟨rfl, rfl, rfl, by decide +kernel, rfl, by decide +kernel, by decide +kernel⟩, by decide +kernel, rfl, fun _ _ _ _ _ _ us hl => match us, hl with | [_, _], _ => rfl⟩
theorem st12 : RowSt r12 := ⟨⟨rfl, rfl, rfl, by decide +kernel, rfl, by decide +kernel, by decide +kernel⟩, by decide +kernel, rfl, fun _ _ _ _ _ _ us hl => match us, hl with | [_], _ => rfl⟩
theorem st13 : RowSt r13 := ⟨⟨rfl, rfl, rfl, by decide +kernel, rfl, by decide +kernel, by decide +kernel⟩, by decide +kernel, rfl, fun _ _ _ _ _ _ us hl => match us, hl with | [_], _ => rfl⟩
theorem st14 : RowSt r14 := ⟨⟨rfl, rfl, rfl, by decide +kernel, rfl, by decide +kernel, by decide +kernel⟩, by decide +kernel, rfl, fun _ _ _ _ _ _ us hl => match us, hl with | [_, _], _ => rfl⟩
theorem st15 : RowSt r15 := ⟨⟨rfl, rfl, rfl, by decide +kernel, rfl, by decide +kernel, by decide +kernel⟩, by decide +kernel, rfl, fun _ _ _ _ _ _ us hl => match us, hl with | [_, _], _ => rfl⟩
theorem st16 : RowSt r16 := ⟨⟨rfl, rfl, rfl, by decide +kernel, rfl, by decide +kernel, by decide +kernel⟩, by decide +kernel, rfl, fun _ _ _ _ _ _ us hl => match us, hl with | [_, _], _ => rfl⟩
theorem st17 : RowSt r17 := ⟨⟨rfl, rfl, rfl, by decide +kernel, rfl, by decide +kernel, by decide +kernel⟩, by decide +kernel, rfl, fun _ _ _ _ _ _ us hl => match us, hl with | [_, _], _ => rfl⟩
theorem st18 : RowSt r18 := ⟨⟨rfl, rfl, rfl, by decide +kernel, rfl, by decide +kernel, by decide +kernel⟩, by decide +kernel, rfl, fun _ _ _ _ _ _ us hl => match us, hl with | [_, _], _ => rfl⟩
theorem st19 : RowSt r19 := ⟨⟨rfl, rfl, rfl, by decide +kernel, rfl, by decide +kernel, by decide +kernel⟩, by decide +kernel, rfl, fun _ _ _ _ _ _ us hl => match us, hl with | [_], _ => rfl⟩
theorem st20 : RowSt r20 := ⟨⟨rfl, rfl, rfl, by decide +kernel, rfl, by decide +kernel, by decide +kernel⟩, by decide +kernel, rfl, fun _ _ _ _ _ _ us hl => match us, hl with | [_, _], _ => rfl⟩
theorem st21 : RowSt r21 := ⟨⟨rfl, rfl, rfl, by decide +kernel, rfl, by decide +kernel, by decide +kernel⟩, by decide +kernel, rfl, fun _ _ _ _ _ _ us hl => match us, hl with | [_, _, _], _ => rfl⟩
theorem st22 : RowSt r22 := ⟨⟨rfl, rfl, rfl, by decide +kernel, rfl, by decide +kernel, by decide +kernel⟩, by decide +kernel, rfl, fun _ _ _ _ _ _ us hl => match us, hl with | [_], _ => rfl⟩
theorem st23 : RowSt r23 := ⟨⟨rfl, rfl, rfl, by decide +kernel, rfl, by decide +kernel, by decide +kernel⟩, by decide +kernel, rfl, fun _ _ _ _ _ _ us hl => match us, hl with | [_], _ => rfl⟩
theorem st24 : RowSt r24 := ⟨⟨rfl, rfl, rfl, by decide +kernel, rfl, by decide +kernel, by decide +kernel⟩, by decide +kernel, rfl, fun _ _ _ _ _ _ us hl => match us, hl with | [_], _ => rfl⟩
theorem st25 : RowSt r25 := ⟨⟨rfl, rfl, rfl, by decide +kernel, rfl, by decide +kernel, by decide +kernel⟩, by decide +kernel, rfl, fun _ _ _ _ _ _ us hl => match us, hl with | [_], _ => rfl⟩
theorem st26 : RowSt r26 := ⟨⟨rfl, rfl, rfl, by decide +kernel, rfl, by decide +kernel, by decide +kernel⟩, by decide +kernel, rfl, fun _ _ _ _ _ _ us hl => match us, hl with | [_, _, _], _ => rfl⟩
theorem st27 : RowSt r27 := ⟨⟨rfl, rfl, rfl, by decide +kernel, rfl, by decide +kernel, by decide +kernel⟩, by decide +kernel, rfl, fun _ _ _ _ _ _ us hl => match us, hl with | [_, _, _], _ => rfl⟩
theorem st28 : RowSt r28 := ⟨⟨rfl, rfl, rfl, by decide +kernel, rfl, by decide +kernel, by decide +kernel⟩, by decide +kernel, rfl, fun _ _ _ _ _ _ us hl => match us, hl with | [_, _], _ => rfl⟩
theorem st29 : RowSt r29 := ⟨⟨rfl, rfl, rfl, by decide +kernel, rfl, by decide +kernel, by decide +kernel⟩, by decide +kernel, rfl, fun _ _ _ _ _ _ us hl => match us, hl with | [_, _], _ => rfl⟩
theorem st30 : RowSt r30 := ⟨⟨rfl, rfl, rfl, by decide +kernel, rfl, by decide +kernel, by decide +kernel⟩, by decide +kernel, rfl, fun _ _ _ _ _ _ us hl => match us, hl with | [_], _ => rfl⟩
theorem st31 : RowSt r31 := ⟨⟨rfl, rfl, rfl, by decide +kernel, rfl, by decide +kernel, by decide +kernel⟩, by decide +kernel, rfl, fun _ _ _ _ _ _ us hl => match us, hl with | [_, _], _ => rfl⟩
theorem st32 : RowSt r32 := ⟨⟨rfl, rfl, rfl, by decide +kernel, rfl, by decide +kernel, by decide +kernel⟩, by decide +kernel, rfl, fun _ _ _ _ _ _ us hl => match us, hl with | [_], _ => rfl⟩
theorem st33 : RowSt r33 := ⟨⟨rfl, rfl, rfl, by decide +kernel, rfl, by decide +kernel, by decide +kernel⟩, by decide +kernel, rfl, fun _ _ _ _ _ _ us hl => match us, hl with | [_, _], _ => rfl⟩
theorem st34 : RowSt r34 := ⟨⟨rfl, rfl, rfl, by decide +kernel, rfl, by decide +kernel, by decide +kernel⟩, by decide +kernel, rfl, fun _ _ _ _ _ _ us hl => match us, hl with | [_, _], _ => rfl⟩
theorem st35 : RowSt r35 := ⟨⟨rfl, rfl, rfl, by decide +kernel, rfl, by decide +kernel, by decide +kernel⟩, by decide +kernel, rfl, fun _ _ _ _ _ _ us hl => match us, hl with | [_], _ => rfl⟩
theorem st36 : RowSt r36 := ⟨⟨rfl, rfl, rfl, by decide +kernel, rfl, by decide +kernel, by decide +kernel⟩, by decide +kernel, rfl, fun _ _ _ _ _ _ us hl => match us, hl with | [_], _ => rfl⟩
theorem st37 : RowSt r37 := ⟨⟨rfl, rfl, rfl, by decide +kernel, rfl, by decide +kernel, by decide +kernel⟩, by decide +kernel, rfl, fun _ _ _ _ _ _ us hl => match us, hl with | [_], _ => rfl⟩
theorem st38 : RowSt r38 := ⟨⟨rfl, rfl, rfl, by decide +kernel, rfl, by decide +kernel, by decide +kernel⟩, by decide +kernel, rfl, fun _ _ _ _ _ _ us hl => match us, hl with | [_], _ => rfl⟩
theorem sts : ∀ r ∈ rows, RowSt r := List.forall_mem_cons.mpr ⟨st0, List.forall_mem_cons.mpr ⟨st1, List.forall_mem_cons.mpr ⟨st2, List.forall_mem_cons.mpr ⟨st3, List.forall_mem_cons.mpr ⟨st4, List.forall_mem_cons.mpr ⟨st5, List.forall_mem_cons.mpr ⟨st6, List.forall_mem_cons.mpr ⟨st7, List.forall_mem_cons.mpr ⟨st8, List.forall_mem_cons.mpr ⟨st9, List.forall_mem_cons.mpr ⟨st10, List.forall_mem_cons.mpr ⟨st11, List.forall_mem_cons.mpr ⟨st12, List.forall_mem_cons.mpr ⟨st13, List.forall_mem_cons.mpr ⟨st14, List.forall_mem_cons.mpr ⟨st15, List.forall_mem_cons.mpr ⟨st16, List.forall_mem_cons.mpr ⟨st17, List.forall_mem_cons.mpr ⟨st18, List.forall_mem_cons.mpr ⟨st19, List.forall_mem_cons.mpr ⟨st20, List.forall_mem_cons.mpr ⟨st21, List.forall_mem_cons.mpr ⟨st22, List.forall_mem_cons.mpr ⟨st23, List.forall_mem_cons.mpr ⟨st24, List.forall_mem_cons.mpr ⟨st25, List.forall_mem_cons.mpr ⟨st26, List.forall_mem_cons.mpr ⟨st27, List.forall_mem_cons.mpr ⟨st28, List.forall_mem_cons.mpr ⟨st29, List.forall_mem_cons.mpr ⟨st30, List.forall_mem_cons.mpr ⟨st31, List.forall_mem_cons.mpr ⟨st32, List.forall_mem_cons.mpr ⟨st33, List.forall_mem_cons.mpr ⟨st34, List.forall_mem_cons.mpr ⟨st35, List.forall_mem_cons.mpr ⟨st36, List.forall_mem_cons.mpr ⟨st37, List.forall_mem_cons.mpr ⟨st38, fun _ h => absurd h (List.not_mem_nil)⟩⟩⟩⟩⟩⟩⟩⟩⟩⟩⟩⟩⟩⟩⟩⟩⟩⟩⟩⟩⟩⟩⟩⟩⟩⟩⟩⟩⟩⟩⟩⟩⟩⟩⟩⟩⟩⟩⟩
abbrev rowR : PySem.W.OpenRow := PySem.W.OpenLaw.row PySem.Challenge.rw_latticehouse_k84_brackets_are_a_lattice
def names0 : List PySem.Str := ["brackets", "size_of", "turned_right", "mirrored", "reach", "is_reach", "tree_of", "is_right_of", "lattice_of_brackets", "meet_reach", "join_brackets", "meet_brackets", "write_brackets", "count_brackets", "is_number", "is_set", "is_part", "shared", "is_order_of", "below_of", "least_of", "join_of", "turned_over", "has_joins", "is_lattice", "_law_size", "_law_box", "_law_digits", "_law_cell", "_law_draw"]
def names1 : List PySem.Str := ["_law_all_brackets", "_law_same", "_law_moves", "_law_reach", "_law_inside", "_law_reach_row", "_law_text", "_law_mirror"]
def names : List PySem.Str := names0 ++ names1
theorem run (w : World) : HandSHeadRun.RunEq rowR (PySem.W.view rowR.prog [42]) (lawHook rows) (seenT rows) 20000 names w := by
  intro os
  kernel_rfl
end K84
open PySem PySem.W PySem.Calls PyProof.Rows
theorem K84.holds_of (m : Nat) (hr : L2.Room (17 * (m + 1)) callerA) (h : ∀ ns : List Int, ns.length ≤ 63 → (∀ z ∈ ns, PySem.Builtin.Int.intBits z ≤ 1048576) → LH.semOf (LH.fnAt K84.rows m) K84.r38 [.list (ns.map PyData.int)] = some (.val (.bool true), [])) : PySem.Challenge.rw_latticehouse_k84_brackets_are_a_lattice.Holds := by
  w_on; o_law
  refine HandSHeadRun.head_any (r := OpenLaw.row PySem.Challenge.rw_latticehouse_k84_brackets_are_a_lattice) (q := view (OpenLaw.row PySem.Challenge.rw_latticehouse_k84_brackets_are_a_lattice).prog [42]) (H := LH.lawHook K84.rows) (ob := LH.seenT K84.rows) (M := 20000) (loose := K84.names) (d := HandSHeadRun.topDef (OpenLaw.row PySem.Challenge.rw_latticehouse_k84_brackets_are_a_lattice).prog 42) (kwd := []) (LH.seenT_eq K84.rows)
    (by kernel_rfl) (fun s => by kernel_rfl) K84.run (by kernel_rfl) (by kernel_rfl) (by kernel_rfl) (by rfl) (by first | assumption | decide +kernel) (by decide +kernel) ⟨rfl, rfl, rfl, rfl, rfl, by decide +kernel⟩ ?hw ?hc
  case hw => w_witness2
  case hc =>
    refine LamX.walk_ofTsE (l := PySem.Challenge.rw_latticehouse_k84_brackets_are_a_lattice) (n := 63) (k := 17 * (m + 1)) (x := "script") (CX := fun _ => L2.CX0) rfl (by decide) (by kernel_rfl) hr ?F (fun _ _ _ _ _ z => z)
    intro w mg fa hp Y G hmg0
    have hmg : mg ("law" : PySem.Str) = some (.ref fa) := by
      have e : (HandSHeadRun.topDef (OpenLaw.row PySem.Challenge.rw_latticehouse_k84_brackets_are_a_lattice).prog 42).name = ("law" : PySem.Str) := by kernel_rfl
      rw [← e]
      exact hmg0
    exact LH.lawAt (rows := K84.rows) (m := m) (r := K84.r38) Y G hmg K84.sts (by kernel_rfl) rfl rfl h
end

section
set_option Elab.async false
set_option linter.all false
set_option maxRecDepth 100000
set_option maxHeartbeats 0
namespace K84
open PySem LH
/-- brackets -/
def ms0 (s : Nat → Sem) : MS := (sSeq (sAsg 1 (dLst [(dLst [(dVal (.int 0))])]))
  (sSeq (sFor (gName 2) (mRng2 (dVal (.int 1)) (dOp2 fAdd (dVar 0) (dVal (.int 1))))
  (sSeq (sAsg 3 (dComp [4, 5, 6] (dTup [(dVar 5), (dVar 6)]) (mRng1 (dVar 2)) (gName 4) (testAll []) [⟨[5, 6], (gName 5), (mSeq (dIx (dVar 1) (dVar 4))), (testAll [])⟩, ⟨[6], (gName 6), (mSeq (dIx (dVar 1) (dOp2 fSub (dOp2 fSub (dVar 2) (dVal (.int 1))) (dVar 4)))), (testAll [])⟩]))
  (sAppend 1 (dVar 3))))
  (sRet (dEat (fEat .tuple) (mSeq (dIx (dVar 1) (dVar 0)))))))
/-- size_of -/
def ms1 (s : Nat → Sem) : MS := (sRet (dIf (tBool (dCmp .eq (dVar 0) (dVal (.int 0)))) (dVal (.int 0)) (dOp2 fAdd (dOp2 fAdd (dVal (.int 1)) (dCall (s 1) [(dIx (dVar 0) (dVal (.int 0)))])) (dCall (s 1) [(dIx (dVar 0) (dVal (.int 1)))]))))
/-- turned_right -/
def ms2 (s : Nat → Sem) : MS := (sSeq (sIf (tBool (dCmp .eq (dVar 0) (dVal (.int 0))))
  (sRet (dLst []))
  sNil)
  (sSeq (sAsgG (gTup [(gName 2), (gName 3)]) (dVar 0))
  (sSeq (sAsg 1 (dLst []))
  (sSeq (sIf (tBool (dCmp .ne (dVar 2) (dVal (.int 0))))
  (sAppend 1 (dTup [(dIx (dVar 2) (dVal (.int 0))), (dTup [(dIx (dVar 2) (dVal (.int 1))), (dVar 3)])]))
  sNil)
  (sSeq (sExtend 1 (dComp [4] (dTup [(dVar 4), (dVar 3)]) (mSeq (dCall (s 2) [(dVar 2)])) (gName 4) (testAll []) []))
  (sSeq (sExtend 1 (dComp [4] (dTup [(dVar 2), (dVar 4)]) (mSeq (dCall (s 2) [(dVar 3)])) (gName 4) (testAll []) []))
  (sRet (dVar 1))))))))
/-- mirrored -/
def ms3 (s : Nat → Sem) : MS := (sRet (dIf (tBool (dCmp .eq (dVar 0) (dVal (.int 0)))) (dVal (.int 0)) (dTup [(dCall (s 3) [(dIx (dVar 0) (dVal (.int 1)))]), (dCall (s 3) [(dIx (dVar 0) (dVal (.int 0)))])])))
/-- reach -/
def ms4 (s : Nat → Sem) : MS := (sSeq (sIf (tBool (dCmp .eq (dVar 0) (dVal (.int 0))))
  (sRet (dTup []))
  sNil)
  (sRet (dOp2 fAdd (dOp2 fAdd (dCall (s 4) [(dIx (dVar 0) (dVal (.int 0)))]) (dTup [(dCall (s 1) [(dIx (dVar 0) (dVal (.int 1)))])])) (dCall (s 4) [(dIx (dVar 0) (dVal (.int 1)))]))))
/-- is_reach -/
def ms5 (s : Nat → Sem) : MS := (sSeq (sAsg 1 (dLen (dVar 0)))
  (sSeq (sIf (tNot (tTru (dAllG (dGen .all [3, 4] (dAnd (dCmp .le (dVal (.int 0)) (dVar 4)) (dCmp .lt (dOp2 fAdd (dVar 3) (dVar 4)) (dVar 1))) (mEnum (dVar 0)) (gTup [(gName 3), (gName 4)]) (testAll []) []))))
  (sRet (dVal (.bool false)))
  sNil)
  (sRet (dAllG (dGen .all [3, 4, 2] (dCmp .le (dOp2 fAdd (dVar 2) (dIx (dVar 0) (dVar 2))) (dOp2 fAdd (dVar 3) (dVar 4))) (mEnum (dVar 0)) (gTup [(gName 3), (gName 4)]) (testAll []) [⟨[2], (gName 2), (mRng2 (dOp2 fAdd (dVar 3) (dVal (.int 1))) (dOp2 fAdd (dOp2 fAdd (dVar 3) (dVar 4)) (dVal (.int 1)))), (testAll [])⟩])))))
/-- tree_of -/
def ms6 (s : Nat → Sem) : MS := (sSeq (sIf (tNot (tTru (dVar 0)))
  (sRet (dVal (.int 0)))
  sNil)
  (sSeq (sAsg 1 (dIx (dComp [2] (dVar 2) (mRng1 (dLen (dVar 0))) (gName 2) (tBool (dCmp .eq (dOp2 fAdd (dVar 2) (dIx (dVar 0) (dVar 2))) (dOp2 fSub (dLen (dVar 0)) (dVal (.int 1))))) []) (dVal (.int 0))))
  (sRet (dTup [(dCall (s 6) [(dCut (dVar 0) none (some (dVar 1)))]), (dCall (s 6) [(dCut (dVar 0) (some (dOp2 fAdd (dVar 1) (dVal (.int 1)))) none)])]))))
/-- is_right_of -/
def ms7 (s : Nat → Sem) : MS := (sRet (dAllG (dGen .all [2, 3] (dCmp .ge (dVar 2) (dVar 3)) (mZip (dCall (s 4) [(dVar 0)]) (dCall (s 4) [(dVar 1)])) (gTup [(gName 2), (gName 3)]) (testAll []) [])))
/-- lattice_of_brackets -/
def ms8 (s : Nat → Sem) : MS := (sSeq (sAsg 1 (dCall (s 0) [(dVar 0)]))
  (sSeq (sAsg 2 (dEatG (fEat .tuple) (dGen .col [3] (dEatG (fEat .tuple) (dGen .col [4, 5] (dVar 4) (mEnum (dVar 1)) (gTup [(gName 4), (gName 5)]) (tTru (dCall (s 7) [(dVar 5), (dVar 3)])) [])) (mSeq (dVar 1)) (gName 3) (testAll []) [])))
  (sRet (dTup [(dVal (.str "lattice")), (dLen (dVar 1)), (dVar 2)]))))
/-- meet_reach -/
def ms9 (s : Nat → Sem) : MS := (sRet (dEatG (fEat .tuple) (dGen .col [2, 3] (dOp2 fMin2 (dVar 2) (dVar 3)) (mZip (dVar 0) (dVar 1)) (gTup [(gName 2), (gName 3)]) (testAll []) [])))
/-- join_brackets -/
def ms10 (s : Nat → Sem) : MS := (sSeq (sAsg 2 (dCall (s 9) [(dCall (s 4) [(dCall (s 3) [(dVar 0)])]), (dCall (s 4) [(dCall (s 3) [(dVar 1)])])]))
  (sRet (dIf (tTru (dCall (s 5) [(dVar 2)])) (dCall (s 3) [(dCall (s 6) [(dVar 2)])]) (dVal .none))))
/-- meet_brackets -/
def ms11 (s : Nat → Sem) : MS := (sRet (dCall (s 6) [(dCall (s 9) [(dCall (s 4) [(dVar 0)]), (dCall (s 4) [(dVar 1)])])]))
/-- write_brackets -/
def ms12 (s : Nat → Sem) : MS := (sRet (dIf (tBool (dCmp .eq (dVar 0) (dVal (.int 0)))) (dVal (.str "x")) (dOp2 fAdd (dOp2 fAdd (dOp2 fAdd (dVal (.str "(")) (dCall (s 12) [(dIx (dVar 0) (dVal (.int 0)))])) (dCall (s 12) [(dIx (dVar 0) (dVal (.int 1)))])) (dVal (.str ")")))))
/-- count_brackets -/
def ms13 (s : Nat → Sem) : MS := (sSeq (sAsg 1 (dLst [(dVal (.int 1))]))
  (sSeq (sFor (gName 2) (mRng2 (dVal (.int 1)) (dOp2 fAdd (dVar 0) (dVal (.int 1))))
  (sAppend 1 (dEatG (fEat .sum) (dGen .col [3] (dOp2 fMul (dIx (dVar 1) (dVar 3)) (dIx (dVar 1) (dOp2 fSub (dOp2 fSub (dVar 2) (dVal (.int 1))) (dVar 3)))) (mRng1 (dVar 2)) (gName 3) (testAll []) []))))
  (sRet (dIx (dVar 1) (dVar 0)))))
/-- is_number -/
def ms14 (s : Nat → Sem) : MS := (sRet (dAnd (dOp1 (fIsI .int) (dVar 0)) (dAnd (dNot (dOp1 (fIsI .bool) (dVar 0))) (dChain .le .lt (dVal (.int 0)) (dVar 0) (dVar 1)))))
/-- is_set -/
def ms15 (s : Nat → Sem) : MS := (sSeq (sIf (tOr (tNot (tTru (dOp1 (fIsI .tuple) (dVar 0)))) (tNot (tTru (dAllG (dGen .all [2] (dCall (s 14) [(dVar 2), (dVar 1)]) (mSeq (dVar 0)) (gName 2) (testAll []) [])))))
  (sRet (dVal (.bool false)))
  sNil)
  (sRet (dAllG (dGen .all [2, 3] (dCmp .lt (dVar 2) (dVar 3)) (mZip (dVar 0) (dCut (dVar 0) (some (dVal (.int 1))) none)) (gTup [(gName 2), (gName 3)]) (testAll []) []))))
/-- is_part -/
def ms16 (s : Nat → Sem) : MS := (sRet (dAllG (dGen .all [2] (dIn false (dVar 2) (dVar 1)) (mSeq (dVar 0)) (gName 2) (testAll []) [])))
/-- shared -/
def ms17 (s : Nat → Sem) : MS := (sRet (dEatG (fEat .tuple) (dGen .col [2] (dVar 2) (mSeq (dVar 0)) (gName 2) (tBool (dIn false (dVar 2) (dVar 1))) [])))
/-- is_order_of -/
def ms18 (s : Nat → Sem) : MS := (sSeq (sIf (tOr (tNot (tTru (dOp1 (fIsI .tuple) (dVar 0)))) (tOr (tBool (dCmp .ne (dLen (dVar 0)) (dVal (.int 3)))) (tOr (tBool (dCmp .ne (dIx (dVar 0) (dVal (.int 0))) (dVar 1))) (tNot (tTru (dOp1 (fIsI .tuple) (dIx (dVar 0) (dVal (.int 2)))))))))
  (sRet (dVal (.bool false)))
  sNil)
  (sSeq (sAsgG (gTup [(gName 2), (gName 3), (gName 4)]) (dVar 0))
  (sSeq (sIf (tOr (tNot (tTru (dCall (s 14) [(dVar 3), (dOp2 fAdd (dLen (dVar 4)) (dVal (.int 1)))]))) (tOr (tBool (dCmp .ne (dVar 3) (dLen (dVar 4)))) (tNot (tTru (dAllG (dGen .all [6] (dCall (s 15) [(dVar 6), (dVar 3)]) (mSeq (dVar 4)) (gName 6) (testAll []) []))))))
  (sRet (dVal (.bool false)))
  sNil)
  (sSeq (sFor (gTup [(gName 5), (gName 6)]) (mEnum (dVar 4))
  (sSeq (sIf (tOr (tBool (dIn true (dVar 5) (dVar 6))) (tTru (dAnyG (dGen .any [7] (dAnd (dCmp .ne (dVar 7) (dVar 5)) (dIn false (dVar 5) (dIx (dVar 4) (dVar 7)))) (mSeq (dVar 6)) (gName 7) (testAll []) []))))
  (sRet (dVal (.bool false)))
  sNil)
  (sIf (tNot (tTru (dAllG (dGen .all [7] (dCall (s 16) [(dIx (dVar 4) (dVar 7)), (dVar 6)]) (mSeq (dVar 6)) (gName 7) (testAll []) []))))
  (sRet (dVal (.bool false)))
  sNil)))
  (sRet (dVal (.bool true)))))))
/-- below_of -/
def ms19 (s : Nat → Sem) : MS := (sSeq (sAsgG (gTup [(gName 1), (gName 2), (gName 3)]) (dVar 0))
  (sRet (dEatG (fEat .tuple) (dGen .col [4] (dEatG (fEat .tuple) (dGen .col [5] (dVar 5) (mRng1 (dVar 2)) (gName 5) (tBool (dIn false (dVar 4) (dIx (dVar 3) (dVar 5)))) [])) (mRng1 (dVar 2)) (gName 4) (testAll []) []))))
/-- least_of -/
def ms20 (s : Nat → Sem) : MS := (sSeq (sAsg 2 (dComp [3] (dVar 3) (mSeq (dVar 1)) (gName 3) (tTru (dCall (s 16) [(dVar 1), (dIx (dIx (dVar 0) (dVal (.int 2))) (dVar 3))])) []))
  (sRet (dIf (tTru (dVar 2)) (dIx (dVar 2) (dVal (.int 0))) (dVal .none))))
/-- join_of -/
def ms21 (s : Nat → Sem) : MS := (sRet (dCall (s 20) [(dVar 0), (dCall (s 17) [(dIx (dIx (dVar 0) (dVal (.int 2))) (dVar 1)), (dIx (dIx (dVar 0) (dVal (.int 2))) (dVar 2))])]))
/-- turned_over -/
def ms22 (s : Nat → Sem) : MS := (sRet (dTup [(dIx (dVar 0) (dVal (.int 0))), (dIx (dVar 0) (dVal (.int 1))), (dCall (s 19) [(dVar 0)])]))
/-- has_joins -/
def ms23 (s : Nat → Sem) : MS := (sSeq (sAsg 1 (dIx (dVar 0) (dVal (.int 1))))
  (sRet (dAllG (dGen .all [2, 3] (dOp1 (fIsN true) (dCall (s 21) [(dVar 0), (dVar 2), (dVar 3)])) (mRng1 (dVar 1)) (gName 2) (testAll []) [⟨[3], (gName 3), (mRng1 (dVar 2)), (testAll [])⟩]))))
/-- is_lattice -/
def ms24 (s : Nat → Sem) : MS := (sSeq (sIf (tOr (tNot (tTru (dCall (s 18) [(dVar 0), (dVal (.str "lattice"))]))) (tBool (dCmp .eq (dIx (dVar 0) (dVal (.int 1))) (dVal (.int 0)))))
  (sRet (dVal (.bool false)))
  sNil)
  (sRet (dAnd (dCall (s 23) [(dVar 0)]) (dCall (s 23) [(dCall (s 22) [(dVar 0)])]))))
/-- _law_size -/
def ms25 (s : Nat → Sem) : MS := (sSeq (sIf (tBool (dCmp .eq (dVar 0) (dVal (.int 0))))
  (sRet (dVal (.int 0)))
  sNil)
  (sRet (dOp2 fAdd (dOp2 fAdd (dVal (.int 1)) (dCall (s 25) [(dIx (dVar 0) (dVal (.int 0)))])) (dCall (s 25) [(dIx (dVar 0) (dVal (.int 1)))]))))
/-- _law_box -/
def ms26 (s : Nat → Sem) : MS := (sRet (dLst [(dCall (s 27) [(dVar 0), (dVar 1), (dVar 2)]), (dVal (.int 0))]))
/-- _law_digits -/
def ms27 (s : Nat → Sem) : MS := (sSeq (sAsg 3 (dLst []))
  (sSeq (sFor (gName 4) (mRng2 (dVar 1) (dVar 2))
  (sSeq (sAsg 5 (dCall (s 28) [(dVar 0), (dVar 4)]))
  (sSeq (sIf (tBool (dCmp .lt (dVar 5) (dVal (.int 0))))
  (sAsg 5 (dOp2 fSub (dVal (.int 1)) (dOp2 fMul (dVal (.int 2)) (dVar 5))))
  sNil)
  (sIf (tBool (dCmp .ge (dVar 5) (dOp2 fPow (dVal (.int 10)) (dVal (.int 18)))))
  (sFor (gName 6) (mRng1 (dVal (.int 60)))
  (sIf (tBool (dCmp .gt (dVar 5) (dVal (.int 0))))
  (sSeq (sAppend 3 (dOp2 fMod (dOp1 fInt (dVar 5)) (dVal (.int 1000))))
  (sAsg 5 (dOp2 fDiv (dVar 5) (dVal (.int 1000)))))
  sNil))
  (sSeq (sAsg 7 (dOp2 fMod (dOp1 fInt (dOp2 fAdd (dOp2 fAdd (dOp2 fMul (dVar 5) (dVal (.int 48271))) (dOp2 fMul (dVar 4) (dVal (.int 69621)))) (dVal (.int 11)))) (dVal (.int 2147483647))))
  (sFor (gName 6) (mRng1 (dVal (.int 12)))
  (sSeq (sAsg 7 (dOp2 fMod (dOp1 fInt (dOp2 fAdd (dOp2 fAdd (dOp2 fMul (dVar 7) (dVal (.int 16807))) (dOp2 fMul (dVal (.int 7)) (dVar 6))) (dVal (.int 1)))) (dVal (.int 2147483647))))
  (sAppend 3 (dOp2 fMod (dOp1 fInt (dOp2 fDiv (dVar 7) (dVal (.int 997)))) (dVal (.int 1000)))))))))))
  (sRet (dVar 3))))
/-- _law_cell -/
def ms28 (s : Nat → Sem) : MS := (sSeq (sIf (tBool (dCmp .lt (dVar 1) (dLen (dVar 0))))
  (sRet (dIx (dVar 0) (dVar 1)))
  sNil)
  (sRet (dVal (.int 0))))
/-- _law_draw -/
def ms29 (s : Nat → Sem) : MS := (sSeq (sAsg 2 (dIx (dVar 0) (dVal (.int 1))))
  (sSeq (sSetIx 0 (dVal (.int 1)) (dOp2 fAdd (dVar 2) (dVal (.int 1))))
  (sSeq (sIf (tBool (dCmp .lt (dVar 2) (dLen (dIx (dVar 0) (dVal (.int 0))))))
  (sRet (dOp2 fMod (dOp1 fInt (dIx (dIx (dVar 0) (dVal (.int 0))) (dVar 2))) (dVar 1)))
  sNil)
  (sRet (dVal (.int 0))))))
/-- _law_all_brackets -/
def ms30 (s : Nat → Sem) : MS := (sSeq (sAsg 1 (dLst [(dLst [(dVal (.int 0))])]))
  (sSeq (sFor (gName 2) (mRng2 (dVal (.int 1)) (dOp2 fAdd (dVar 0) (dVal (.int 1))))
  (sSeq (sAsg 3 (dLst []))
  (sSeq (sFor (gName 4) (mRng1 (dVar 2))
  (sFor (gName 5) (mSeq (dIx (dVar 1) (dVar 4)))
  (sAsg 3 (dOp2 fAdd (dVar 3) (dComp [6] (dTup [(dVar 5), (dVar 6)]) (mSeq (dIx (dVar 1) (dOp2 fSub (dOp2 fSub (dVar 2) (dVal (.int 1))) (dVar 4)))) (gName 6) (testAll []) [])))))
  (sAppend 1 (dVar 3)))))
  (sRet (dIx (dVar 1) (dVar 0)))))
/-- _law_same -/
def ms31 (s : Nat → Sem) : MS := (sSeq (sIf (tTru (dOp1 (fIsI .tuple) (dVar 1)))
  (sSeq (sIf (tOr (tNot (tTru (dOp1 (fIsI .tuple) (dVar 0)))) (tBool (dCmp .ne (dLen (dVar 0)) (dLen (dVar 1)))))
  (sRet (dVal (.bool false)))
  sNil)
  (sSeq (sFor (gName 2) (mRng1 (dLen (dVar 1)))
  (sIf (tNot (tTru (dCall (s 31) [(dIx (dVar 0) (dVar 2)), (dIx (dVar 1) (dVar 2))])))
  (sRet (dVal (.bool false)))
  sNil))
  (sRet (dVal (.bool true)))))
  sNil)
  (sSeq (sIf (tBool (dOp1 (fIsN false) (dVar 1)))
  (sRet (dOp1 (fIsN false) (dVar 0)))
  sNil)
  (sSeq (sIf (tTru (dOp1 (fIsI .bool) (dVar 1)))
  (sRet (dAnd (dOp1 (fIsI .bool) (dVar 0)) (dCmp .eq (dVar 0) (dVar 1))))
  sNil)
  (sSeq (sIf (tTru (dOp1 (fIsI .int) (dVar 1)))
  (sRet (dAnd (dOp1 (fIsI .int) (dVar 0)) (dAnd (dNot (dOp1 (fIsI .bool) (dVar 0))) (dCmp .eq (dVar 0) (dVar 1)))))
  sNil)
  (sRet (dAnd (dOp1 (fIsI .str) (dVar 0)) (dCmp .eq (dVar 0) (dVar 1))))))))
/-- _law_moves -/
def ms32 (s : Nat → Sem) : MS := (sSeq (sIf (tBool (dCmp .eq (dVar 0) (dVal (.int 0))))
  (sRet (dLst []))
  sNil)
  (sSeq (sAsgG (gTup [(gName 2), (gName 3)]) (dVar 0))
  (sSeq (sAsg 1 (dLst []))
  (sSeq (sIf (tBool (dCmp .ne (dVar 2) (dVal (.int 0))))
  (sAppend 1 (dTup [(dIx (dVar 2) (dVal (.int 0))), (dTup [(dIx (dVar 2) (dVal (.int 1))), (dVar 3)])]))
  sNil)
  (sRet (dOp2 fAdd (dOp2 fAdd (dVar 1) (dComp [4] (dTup [(dVar 4), (dVar 3)]) (mSeq (dCall (s 32) [(dVar 2)])) (gName 4) (testAll []) [])) (dComp [4] (dTup [(dVar 2), (dVar 4)]) (mSeq (dCall (s 32) [(dVar 3)])) (gName 4) (testAll []) [])))))))
/-- _law_reach -/
def ms33 (s : Nat → Sem) : MS := (sSeq (sAsg 2 (dLst []))
  (sSeq (sFor (gName 3) (mRng1 (dVar 0))
  (sSeq (sAsg 4 (dLst [(dVar 3)]))
  (sSeq (sFor (gName 5) (mRng1 (dVar 0))
  (sIf (tBool (dCmp .lt (dVar 5) (dLen (dVar 4))))
  (sAsg 4 (dOp2 fAdd (dVar 4) (dComp [6] (dVar 6) (mRng1 (dVar 0)) (gName 6) (tAnd (tBool (dIn false (dTup [(dIx (dVar 4) (dVar 5)), (dVar 6)]) (dVar 1))) (tBool (dIn true (dVar 6) (dVar 4)))) [])))
  sNil))
  (sAppend 2 (dEat (fEat .tuple) (mSeq (dEat (fEat .sorted) (mLst (dVar 4)))))))))
  (sRet (dEat (fEat .tuple) (mSeq (dVar 2))))))
/-- _law_inside -/
def ms34 (s : Nat → Sem) : MS := (sRet (dCmp .eq (dLen (dComp [2] (dVar 2) (mSeq (dVar 0)) (gName 2) (tBool (dIn true (dVar 2) (dVar 1))) [])) (dVal (.int 0))))
/-- _law_reach_row -/
def ms35 (s : Nat → Sem) : MS := (sSeq (sIf (tBool (dCmp .eq (dVar 0) (dVal (.int 0))))
  (sRet (dTup []))
  sNil)
  (sRet (dOp2 fAdd (dOp2 fAdd (dCall (s 35) [(dIx (dVar 0) (dVal (.int 0)))]) (dTup [(dCall (s 25) [(dIx (dVar 0) (dVal (.int 1)))])])) (dCall (s 35) [(dIx (dVar 0) (dVal (.int 1)))]))))
/-- _law_text -/
def ms36 (s : Nat → Sem) : MS := (sSeq (sIf (tBool (dCmp .eq (dVar 0) (dVal (.int 0))))
  (sRet (dVal (.str "x")))
  sNil)
  (sRet (dOp2 fAdd (dOp2 fAdd (dOp2 fAdd (dVal (.str "(")) (dCall (s 36) [(dIx (dVar 0) (dVal (.int 0)))])) (dCall (s 36) [(dIx (dVar 0) (dVal (.int 1)))])) (dVal (.str ")")))))
/-- _law_mirror -/
def ms37 (s : Nat → Sem) : MS := (sSeq (sIf (tBool (dCmp .eq (dVar 0) (dVal (.int 0))))
  (sRet (dVal (.int 0)))
  sNil)
  (sRet (dTup [(dCall (s 37) [(dIx (dVar 0) (dVal (.int 1)))]), (dCall (s 37) [(dIx (dVar 0) (dVal (.int 0)))])])))
/-- law -/
def ms38 (s : Nat → Sem) : MS := (sSeq (sAsg 1 (dCall (s 26) [(dVar 0), (dVal (.int 0)), (dVal (.int 62))]))
  (sSeq (sAsg 2 (dCallIO (s 29) 1 [(dVal (.int 5))]))
  (sSeq (sAsg 3 (dCall (s 30) [(dVar 2)]))
  (sSeq (sIf (tOr (tNot (tTru (dCall (s 31) [(dCall (s 0) [(dVar 2)]), (dEat (fEat .tuple) (mSeq (dVar 3)))]))) (tNot (tTru (dCall (s 31) [(dCall (s 13) [(dVar 2)]), (dLen (dVar 3))]))))
  (sRet (dVal (.bool false)))
  sNil)
  (sSeq (sAsg 4 (dLst []))
  (sSeq (sFor (gName 5) (mRng1 (dLen (dVar 3)))
  (sAsg 4 (dOp2 fAdd (dVar 4) (dComp [19] (dTup [(dVar 5), (dMethL fIndexL (dVar 3) (dVar 19))]) (mSeq (dCall (s 32) [(dIx (dVar 3) (dVar 5))])) (gName 19) (testAll []) []))))
  (sSeq (sAsg 6 (dCall (s 33) [(dLen (dVar 3)), (dVar 4)]))
  (sSeq (sAsg 7 (dCall (s 8) [(dVar 2)]))
  (sSeq (sIf (tOr (tNot (tTru (dCall (s 31) [(dVar 7), (dTup [(dVal (.str "lattice")), (dLen (dVar 3)), (dVar 6)])]))) (tAnd (tBool (dCmp .lt (dVar 2) (dVal (.int 4)))) (tBool (dOp1 (fIsB true true) (dCall (s 24) [(dVar 7)])))))
  (sRet (dVal (.bool false)))
  sNil)
  (sSeq (sAsg 8 (dComp [17] (dCall (s 35) [(dVar 17)]) (mSeq (dVar 3)) (gName 17) (testAll []) []))
  (sSeq (sFor (gName 9) (mRng1 (dVal (.int 3)))
  (sSeq (sAsg 10 (dOp2 fMod (dOp1 fInt (dCallIO (s 29) 1 [(dVal (.int 1000))])) (dLen (dVar 3))))
  (sSeq (sAsg 11 (dOp2 fMod (dOp1 fInt (dCallIO (s 29) 1 [(dVal (.int 1000))])) (dLen (dVar 3))))
  (sSeq (sIf (tOr (tNot (tTru (dCall (s 31) [(dEat (fEat .tuple) (mSeq (dCall (s 2) [(dIx (dVar 3) (dVar 10))]))), (dEat (fEat .tuple) (mSeq (dCall (s 32) [(dIx (dVar 3) (dVar 10))])))]))) (tNot (tTru (dCall (s 31) [(dCall (s 4) [(dIx (dVar 3) (dVar 10))]), (dIx (dVar 8) (dVar 10))]))))
  (sRet (dVal (.bool false)))
  sNil)
  (sSeq (sIf (tOr (tNot (tTru (dCall (s 31) [(dCall (s 6) [(dIx (dVar 8) (dVar 10))]), (dIx (dVar 3) (dVar 10))]))) (tNot (tTru (dCall (s 31) [(dCall (s 12) [(dIx (dVar 3) (dVar 10))]), (dCall (s 36) [(dIx (dVar 3) (dVar 10))])]))))
  (sRet (dVal (.bool false)))
  sNil)
  (sSeq (sIf (tNot (tTru (dCall (s 31) [(dCall (s 3) [(dIx (dVar 3) (dVar 10))]), (dCall (s 37) [(dIx (dVar 3) (dVar 10))])])))
  (sRet (dVal (.bool false)))
  sNil)
  (sSeq (sAsg 12 (dComp [18] (dVar 18) (mSeq (dIx (dVar 6) (dVar 10))) (gName 18) (tBool (dIn false (dVar 18) (dIx (dVar 6) (dVar 11)))) []))
  (sSeq (sAsg 13 (dComp [18] (dVar 18) (mSeq (dVar 12)) (gName 18) (tTru (dCall (s 34) [(dVar 12), (dIx (dVar 6) (dVar 18))])) []))
  (sSeq (sAsg 14 (dComp [18] (dVar 18) (mRng1 (dLen (dVar 3))) (gName 18) (tAnd (tBool (dIn false (dVar 10) (dIx (dVar 6) (dVar 18)))) (tBool (dIn false (dVar 11) (dIx (dVar 6) (dVar 18))))) []))
  (sSeq (sAsg 15 (dComp [18] (dVar 18) (mSeq (dVar 14)) (gName 18) (tBool (dCmp .eq (dLen (dComp [20] (dVar 20) (mSeq (dVar 14)) (gName 20) (tBool (dIn true (dVar 18) (dIx (dVar 6) (dVar 20)))) [])) (dVal (.int 0)))) []))
  (sSeq (sIf (tOr (tBool (dCmp .ne (dLen (dVar 13)) (dVal (.int 1)))) (tBool (dCmp .ne (dLen (dVar 15)) (dVal (.int 1)))))
  (sRet (dVal (.bool false)))
  sNil)
  (sSeq (sIf (tOr (tNot (tTru (dCall (s 31) [(dCall (s 10) [(dIx (dVar 3) (dVar 10)), (dIx (dVar 3) (dVar 11))]), (dIx (dVar 3) (dIx (dVar 13) (dVal (.int 0))))]))) (tNot (tTru (dCall (s 31) [(dCall (s 11) [(dIx (dVar 3) (dVar 10)), (dIx (dVar 3) (dVar 11))]), (dIx (dVar 3) (dIx (dVar 15) (dVal (.int 0))))]))))
  (sRet (dVal (.bool false)))
  sNil)
  (sSeq (sAsg 16 (dEat (fEat .tuple) (mSeq (dComp [5] (dCallIO (s 29) 1 [(dVal (.int 4))]) (mRng1 (dVar 2)) (gName 5) (testAll []) []))))
  (sIf (tNot (tTru (dCall (s 31) [(dCall (s 5) [(dVar 16)]), (dIn false (dVar 16) (dVar 8))])))
  (sRet (dVal (.bool false)))
  sNil))))))))))))))
  (sRet (dVal (.bool true))))))))))))))
noncomputable def mf0 (s : Nat → Sem) : MS := (sSeq (sAsgN 1 (dLst [(dLst [(dVal (.int 0))])]))
  (sSeq (sFor (gNameN 2) (mRng2 (dVal (.int 1)) (dOp2 fAdd (dVar 0) (dVal (.int 1))))
  (sSeq (sAsgN 3 (dComp [4, 5, 6] (dTup [(dVar 5), (dVar 6)]) (mRng1 (dVar 2)) (gNameN 4) (testAll []) [⟨[5, 6], (gNameN 5), (mSeq (dIx (dVar 1) (dVar 4))), (testAll [])⟩, ⟨[6], (gNameN 6), (mSeq (dIx (dVar 1) (dOp2 fSub (dOp2 fSub (dVar 2) (dVal (.int 1))) (dVar 4)))), (testAll [])⟩]))
  (sAppend 1 (dVar 3))))
  (sRet (dEat (fEat .tuple) (mSeq (dIx (dVar 1) (dVar 0)))))))
theorem mf0_eq (s : Nat → Sem) : ms0 s = mf0 s := by unfold ms0 mf0; simp only [dCallN_eq, sAsgN_eq, gNameN_eq]
noncomputable def mf1 (s : Nat → Sem) : MS := (sRet (dIf (tBool (dCmp .eq (dVar 0) (dVal (.int 0)))) (dVal (.int 0)) (dOp2 fAdd (dOp2 fAdd (dVal (.int 1)) (dCallN (s 1) [(dIx (dVar 0) (dVal (.int 0)))])) (dCallN (s 1) [(dIx (dVar 0) (dVal (.int 1)))]))))
theorem mf1_eq (s : Nat → Sem) : ms1 s = mf1 s := by unfold ms1 mf1; simp only [dCallN_eq, sAsgN_eq, gNameN_eq]
noncomputable def mf2 (s : Nat → Sem) : MS := (sSeq (sIf (tBool (dCmp .eq (dVar 0) (dVal (.int 0))))
  (sRet (dLst []))
  sNil)
  (sSeq (sAsgG (gTup [(gNameN 2), (gNameN 3)]) (dVar 0))
  (sSeq (sAsgN 1 (dLst []))
  (sSeq (sIf (tBool (dCmp .ne (dVar 2) (dVal (.int 0))))
  (sAppend 1 (dTup [(dIx (dVar 2) (dVal (.int 0))), (dTup [(dIx (dVar 2) (dVal (.int 1))), (dVar 3)])]))
  sNil)
  (sSeq (sExtend 1 (dComp [4] (dTup [(dVar 4), (dVar 3)]) (mSeq (dCallN (s 2) [(dVar 2)])) (gNameN 4) (testAll []) []))
  (sSeq (sExtend 1 (dComp [4] (dTup [(dVar 2), (dVar 4)]) (mSeq (dCallN (s 2) [(dVar 3)])) (gNameN 4) (testAll []) []))
  (sRet (dVar 1))))))))
theorem mf2_eq (s : Nat → Sem) : ms2 s = mf2 s := by unfold ms2 mf2; simp only [dCallN_eq, sAsgN_eq, gNameN_eq]
noncomputable def mf3 (s : Nat → Sem) : MS := (sRet (dIf (tBool (dCmp .eq (dVar 0) (dVal (.int 0)))) (dVal (.int 0)) (dTup [(dCallN (s 3) [(dIx (dVar 0) (dVal (.int 1)))]), (dCallN (s 3) [(dIx (dVar 0) (dVal (.int 0)))])])))
theorem mf3_eq (s : Nat → Sem) : ms3 s = mf3 s := by unfold ms3 mf3; simp only [dCallN_eq, sAsgN_eq, gNameN_eq]
noncomputable def mf4 (s : Nat → Sem) : MS := (sSeq (sIf (tBool (dCmp .eq (dVar 0) (dVal (.int 0))))
  (sRet (dTup []))
  sNil)
  (sRet (dOp2 fAdd (dOp2 fAdd (dCallN (s 4) [(dIx (dVar 0) (dVal (.int 0)))]) (dTup [(dCallN (s 1) [(dIx (dVar 0) (dVal (.int 1)))])])) (dCallN (s 4) [(dIx (dVar 0) (dVal (.int 1)))]))))
theorem mf4_eq (s : Nat → Sem) : ms4 s = mf4 s := by unfold ms4 mf4; simp only [dCallN_eq, sAsgN_eq, gNameN_eq]
noncomputable def mf5 (s : Nat → Sem) : MS := (sSeq (sAsgN 1 (dLen (dVar 0)))
  (sSeq (sIf (tNot (tTru (dAllG (dGen .all [3, 4] (dAnd (dCmp .le (dVal (.int 0)) (dVar 4)) (dCmp .lt (dOp2 fAdd (dVar 3) (dVar 4)) (dVar 1))) (mEnum (dVar 0)) (gTup [(gNameN 3), (gNameN 4)]) (testAll []) []))))
  (sRet (dVal (.bool false)))
  sNil)
  (sRet (dAllG (dGen .all [3, 4, 2] (dCmp .le (dOp2 fAdd (dVar 2) (dIx (dVar 0) (dVar 2))) (dOp2 fAdd (dVar 3) (dVar 4))) (mEnum (dVar 0)) (gTup [(gNameN 3), (gNameN 4)]) (testAll []) [⟨[2], (gNameN 2), (mRng2 (dOp2 fAdd (dVar 3) (dVal (.int 1))) (dOp2 fAdd (dOp2 fAdd (dVar 3) (dVar 4)) (dVal (.int 1)))), (testAll [])⟩])))))
theorem mf5_eq (s : Nat → Sem) : ms5 s = mf5 s := by unfold ms5 mf5; simp only [dCallN_eq, sAsgN_eq, gNameN_eq]
noncomputable def mf6 (s : Nat → Sem) : MS := (sSeq (sIf (tNot (tTru (dVar 0)))
  (sRet (dVal (.int 0)))
  sNil)
  (sSeq (sAsgN 1 (dIx (dComp [2] (dVar 2) (mRng1 (dLen (dVar 0))) (gNameN 2) (tBool (dCmp .eq (dOp2 fAdd (dVar 2) (dIx (dVar 0) (dVar 2))) (dOp2 fSub (dLen (dVar 0)) (dVal (.int 1))))) []) (dVal (.int 0))))
  (sRet (dTup [(dCallN (s 6) [(dCut (dVar 0) none (some (dVar 1)))]), (dCallN (s 6) [(dCut (dVar 0) (some (dOp2 fAdd (dVar 1) (dVal (.int 1)))) none)])]))))
theorem mf6_eq (s : Nat → Sem) : ms6 s = mf6 s := by unfold ms6 mf6; simp only [dCallN_eq, sAsgN_eq, gNameN_eq]
noncomputable def mf7 (s : Nat → Sem) : MS := (sRet (dAllG (dGen .all [2, 3] (dCmp .ge (dVar 2) (dVar 3)) (mZip (dCallN (s 4) [(dVar 0)]) (dCallN (s 4) [(dVar 1)])) (gTup [(gNameN 2), (gNameN 3)]) (testAll []) [])))
theorem mf7_eq (s : Nat → Sem) : ms7 s = mf7 s := by unfold ms7 mf7; simp only [dCallN_eq, sAsgN_eq, gNameN_eq]
noncomputable def mf8 (s : Nat → Sem) : MS := (sSeq (sAsgN 1 (dCallN (s 0) [(dVar 0)]))
  (sSeq (sAsgN 2 (dEatG (fEat .tuple) (dGen .col [3] (dEatG (fEat .tuple) (dGen .col [4, 5] (dVar 4) (mEnum (dVar 1)) (gTup [(gNameN 4), (gNameN 5)]) (tTru (dCallN (s 7) [(dVar 5), (dVar 3)])) [])) (mSeq (dVar 1)) (gNameN 3) (testAll []) [])))
  (sRet (dTup [(dVal (.str "lattice")), (dLen (dVar 1)), (dVar 2)]))))
theorem mf8_eq (s : Nat → Sem) : ms8 s = mf8 s := by unfold ms8 mf8; simp only [dCallN_eq, sAsgN_eq, gNameN_eq]
noncomputable def mf9 (s : Nat → Sem) : MS := (sRet (dEatG (fEat .tuple) (dGen .col [2, 3] (dOp2 fMin2 (dVar 2) (dVar 3)) (mZip (dVar 0) (dVar 1)) (gTup [(gNameN 2), (gNameN 3)]) (testAll []) [])))
theorem mf9_eq (s : Nat → Sem) : ms9 s = mf9 s := by unfold ms9 mf9; simp only [dCallN_eq, sAsgN_eq, gNameN_eq]
noncomputable def mf10 (s : Nat → Sem) : MS := (sSeq (sAsgN 2 (dCallN (s 9) [(dCallN (s 4) [(dCallN (s 3) [(dVar 0)])]), (dCallN (s 4) [(dCallN (s 3) [(dVar 1)])])]))
  (sRet (dIf (tTru (dCallN (s 5) [(dVar 2)])) (dCallN (s 3) [(dCallN (s 6) [(dVar 2)])]) (dVal .none))))
theorem mf10_eq (s : Nat → Sem) : ms10 s = mf10 s := by unfold ms10 mf10; simp only [dCallN_eq, sAsgN_eq, gNameN_eq]
noncomputable def mf11 (s : Nat → Sem) : MS := (sRet (dCallN (s 6) [(dCallN (s 9) [(dCallN (s 4) [(dVar 0)]), (dCallN (s 4) [(dVar 1)])])]))
theorem mf11_eq (s : Nat → Sem) : ms11 s = mf11 s := by unfold ms11 mf11; simp only [dCallN_eq, sAsgN_eq, gNameN_eq]
noncomputable def mf12 (s : Nat → Sem) : MS := (sRet (dIf (tBool (dCmp .eq (dVar 0) (dVal (.int 0)))) (dVal (.str "x")) (dOp2 fAdd (dOp2 fAdd (dOp2 fAdd (dVal (.str "(")) (dCallN (s 12) [(dIx (dVar 0) (dVal (.int 0)))])) (dCallN (s 12) [(dIx (dVar 0) (dVal (.int 1)))])) (dVal (.str ")")))))
theorem mf12_eq (s : Nat → Sem) : ms12 s = mf12 s := by unfold ms12 mf12; simp only [dCallN_eq, sAsgN_eq, gNameN_eq]
noncomputable def mf13 (s : Nat → Sem) : MS := (sSeq (sAsgN 1 (dLst [(dVal (.int 1))]))
  (sSeq (sFor (gNameN 2) (mRng2 (dVal (.int 1)) (dOp2 fAdd (dVar 0) (dVal (.int 1))))
  (sAppend 1 (dEatG (fEat .sum) (dGen .col [3] (dOp2 fMul (dIx (dVar 1) (dVar 3)) (dIx (dVar 1) (dOp2 fSub (dOp2 fSub (dVar 2) (dVal (.int 1))) (dVar 3)))) (mRng1 (dVar 2)) (gNameN 3) (testAll []) []))))
  (sRet (dIx (dVar 1) (dVar 0)))))
theorem mf13_eq (s : Nat → Sem) : ms13 s = mf13 s := by unfold ms13 mf13; simp only [dCallN_eq, sAsgN_eq, gNameN_eq]
noncomputable def mf14 (s : Nat → Sem) : MS := (sRet (dAnd (dOp1 (fIsI .int) (dVar 0)) (dAnd (dNot (dOp1 (fIsI .bool) (dVar 0))) (dChain .le .lt (dVal (.int 0)) (dVar 0) (dVar 1)))))
theorem mf14_eq (s : Nat → Sem) : ms14 s = mf14 s := by unfold ms14 mf14; simp only [dCallN_eq, sAsgN_eq, gNameN_eq]
noncomputable def mf15 (s : Nat → Sem) : MS := (sSeq (sIf (tOr (tNot (tTru (dOp1 (fIsI .tuple) (dVar 0)))) (tNot (tTru (dAllG (dGen .all [2] (dCallN (s 14) [(dVar 2), (dVar 1)]) (mSeq (dVar 0)) (gNameN 2) (testAll []) [])))))
  (sRet (dVal (.bool false)))
  sNil)
  (sRet (dAllG (dGen .all [2, 3] (dCmp .lt (dVar 2) (dVar 3)) (mZip (dVar 0) (dCut (dVar 0) (some (dVal (.int 1))) none)) (gTup [(gNameN 2), (gNameN 3)]) (testAll []) []))))
theorem mf15_eq (s : Nat → Sem) : ms15 s = mf15 s := by unfold ms15 mf15; simp only [dCallN_eq, sAsgN_eq, gNameN_eq]
noncomputable def mf16 (s : Nat → Sem) : MS := (sRet (dAllG (dGen .all [2] (dIn false (dVar 2) (dVar 1)) (mSeq (dVar 0)) (gNameN 2) (testAll []) [])))
theorem mf16_eq (s : Nat → Sem) : ms16 s = mf16 s := by unfold ms16 mf16; simp only [dCallN_eq, sAsgN_eq, gNameN_eq]
noncomputable def mf17 (s : Nat → Sem) : MS := (sRet (dEatG (fEat .tuple) (dGen .col [2] (dVar 2) (mSeq (dVar 0)) (gNameN 2) (tBool (dIn false (dVar 2) (dVar 1))) [])))
theorem mf17_eq (s : Nat → Sem) : ms17 s = mf17 s := by unfold ms17 mf17; simp only [dCallN_eq, sAsgN_eq, gNameN_eq]
noncomputable def mf18 (s : Nat → Sem) : MS := (sSeq (sIf (tOr (tNot (tTru (dOp1 (fIsI .tuple) (dVar 0)))) (tOr (tBool (dCmp .ne (dLen (dVar 0)) (dVal (.int 3)))) (tOr (tBool (dCmp .ne (dIx (dVar 0) (dVal (.int 0))) (dVar 1))) (tNot (tTru (dOp1 (fIsI .tuple) (dIx (dVar 0) (dVal (.int 2)))))))))
  (sRet (dVal (.bool false)))
  sNil)
  (sSeq (sAsgG (gTup [(gNameN 2), (gNameN 3), (gNameN 4)]) (dVar 0))
  (sSeq (sIf (tOr (tNot (tTru (dCallN (s 14) [(dVar 3), (dOp2 fAdd (dLen (dVar 4)) (dVal (.int 1)))]))) (tOr (tBool (dCmp .ne (dVar 3) (dLen (dVar 4)))) (tNot (tTru (dAllG (dGen .all [6] (dCallN (s 15) [(dVar 6), (dVar 3)]) (mSeq (dVar 4)) (gNameN 6) (testAll []) []))))))
  (sRet (dVal (.bool false)))
  sNil)
  (sSeq (sFor (gTup [(gNameN 5), (gNameN 6)]) (mEnum (dVar 4))
  (sSeq (sIf (tOr (tBool (dIn true (dVar 5) (dVar 6))) (tTru (dAnyG (dGen .any [7] (dAnd (dCmp .ne (dVar 7) (dVar 5)) (dIn false (dVar 5) (dIx (dVar 4) (dVar 7)))) (mSeq (dVar 6)) (gNameN 7) (testAll []) []))))
  (sRet (dVal (.bool false)))
  sNil)
  (sIf (tNot (tTru (dAllG (dGen .all [7] (dCallN (s 16) [(dIx (dVar 4) (dVar 7)), (dVar 6)]) (mSeq (dVar 6)) (gNameN 7) (testAll []) []))))
  (sRet (dVal (.bool false)))
  sNil)))
  (sRet (dVal (.bool true)))))))
theorem mf18_eq (s : Nat → Sem) : ms18 s = mf18 s := by unfold ms18 mf18; simp only [dCallN_eq, sAsgN_eq, gNameN_eq]
noncomputable def mf19 (s : Nat → Sem) : MS := (sSeq (sAsgG (gTup [(gNameN 1), (gNameN 2), (gNameN 3)]) (dVar 0))
  (sRet (dEatG (fEat .tuple) (dGen .col [4] (dEatG (fEat .tuple) (dGen .col [5] (dVar 5) (mRng1 (dVar 2)) (gNameN 5) (tBool (dIn false (dVar 4) (dIx (dVar 3) (dVar 5)))) [])) (mRng1 (dVar 2)) (gNameN 4) (testAll []) []))))
theorem mf19_eq (s : Nat → Sem) : ms19 s = mf19 s := by unfold ms19 mf19; simp only [dCallN_eq, sAsgN_eq, gNameN_eq]
noncomputable def mf20 (s : Nat → Sem) : MS := (sSeq (sAsgN 2 (dComp [3] (dVar 3) (mSeq (dVar 1)) (gNameN 3) (tTru (dCallN (s 16) [(dVar 1), (dIx (dIx (dVar 0) (dVal (.int 2))) (dVar 3))])) []))
  (sRet (dIf (tTru (dVar 2)) (dIx (dVar 2) (dVal (.int 0))) (dVal .none))))
theorem mf20_eq (s : Nat → Sem) : ms20 s = mf20 s := by unfold ms20 mf20; simp only [dCallN_eq, sAsgN_eq, gNameN_eq]
noncomputable def mf21 (s : Nat → Sem) : MS := (sRet (dCallN (s 20) [(dVar 0), (dCallN (s 17) [(dIx (dIx (dVar 0) (dVal (.int 2))) (dVar 1)), (dIx (dIx (dVar 0) (dVal (.int 2))) (dVar 2))])]))
theorem mf21_eq (s : Nat → Sem) : ms21 s = mf21 s := by unfold ms21 mf21; simp only [dCallN_eq, sAsgN_eq, gNameN_eq]
noncomputable def mf22 (s : Nat → Sem) : MS := (sRet (dTup [(dIx (dVar 0) (dVal (.int 0))), (dIx (dVar 0) (dVal (.int 1))), (dCallN (s 19) [(dVar 0)])]))
theorem mf22_eq (s : Nat → Sem) : ms22 s = mf22 s := by unfold ms22 mf22; simp only [dCallN_eq, sAsgN_eq, gNameN_eq]
noncomputable def mf23 (s : Nat → Sem) : MS := (sSeq (sAsgN 1 (dIx (dVar 0) (dVal (.int 1))))
  (sRet (dAllG (dGen .all [2, 3] (dOp1 (fIsN true) (dCallN (s 21) [(dVar 0), (dVar 2), (dVar 3)])) (mRng1 (dVar 1)) (gNameN 2) (testAll []) [⟨[3], (gNameN 3), (mRng1 (dVar 2)), (testAll [])⟩]))))
theorem mf23_eq (s : Nat → Sem) : ms23 s = mf23 s := by unfold ms23 mf23; simp only [dCallN_eq, sAsgN_eq, gNameN_eq]
noncomputable def mf24 (s : Nat → Sem) : MS := (sSeq (sIf (tOr (tNot (tTru (dCallN (s 18) [(dVar 0), (dVal (.str "lattice"))]))) (tBool (dCmp .eq (dIx (dVar 0) (dVal (.int 1))) (dVal (.int 0)))))
  (sRet (dVal (.bool false)))
  sNil)
  (sRet (dAnd (dCallN (s 23) [(dVar 0)]) (dCallN (s 23) [(dCallN (s 22) [(dVar 0)])]))))
theorem mf24_eq (s : Nat → Sem) : ms24 s = mf24 s := by unfold ms24 mf24; simp only [dCallN_eq, sAsgN_eq, gNameN_eq]
noncomputable def mf25 (s : Nat → Sem) : MS := (sSeq (sIf (tBool (dCmp .eq (dVar 0) (dVal (.int 0))))
  (sRet (dVal (.int 0)))
  sNil)
  (sRet (dOp2 fAdd (dOp2 fAdd (dVal (.int 1)) (dCallN (s 25) [(dIx (dVar 0) (dVal (.int 0)))])) (dCallN (s 25) [(dIx (dVar 0) (dVal (.int 1)))]))))
theorem mf25_eq (s : Nat → Sem) : ms25 s = mf25 s := by unfold ms25 mf25; simp only [dCallN_eq, sAsgN_eq, gNameN_eq]
noncomputable def mf26 (s : Nat → Sem) : MS := (sRet (dLst [(dCallN (s 27) [(dVar 0), (dVar 1), (dVar 2)]), (dVal (.int 0))]))
theorem mf26_eq (s : Nat → Sem) : ms26 s = mf26 s := by unfold ms26 mf26; simp only [dCallN_eq, sAsgN_eq, gNameN_eq]
noncomputable def mf27 (s : Nat → Sem) : MS := (sSeq (sAsgN 3 (dLst []))
  (sSeq (sFor (gNameN 4) (mRng2 (dVar 1) (dVar 2))
  (sSeq (sAsgN 5 (dCallN (s 28) [(dVar 0), (dVar 4)]))
  (sSeq (sIf (tBool (dCmp .lt (dVar 5) (dVal (.int 0))))
  (sAsgN 5 (dOp2 fSub (dVal (.int 1)) (dOp2 fMul (dVal (.int 2)) (dVar 5))))
  sNil)
  (sIf (tBool (dCmp .ge (dVar 5) (dOp2 fPow (dVal (.int 10)) (dVal (.int 18)))))
  (sFor (gNameN 6) (mRng1 (dVal (.int 60)))
  (sIf (tBool (dCmp .gt (dVar 5) (dVal (.int 0))))
  (sSeq (sAppend 3 (dOp2 fMod (dOp1 fInt (dVar 5)) (dVal (.int 1000))))
  (sAsgN 5 (dOp2 fDiv (dVar 5) (dVal (.int 1000)))))
  sNil))
  (sSeq (sAsgN 7 (dOp2 fMod (dOp1 fInt (dOp2 fAdd (dOp2 fAdd (dOp2 fMul (dVar 5) (dVal (.int 48271))) (dOp2 fMul (dVar 4) (dVal (.int 69621)))) (dVal (.int 11)))) (dVal (.int 2147483647))))
  (sFor (gNameN 6) (mRng1 (dVal (.int 12)))
  (sSeq (sAsgN 7 (dOp2 fMod (dOp1 fInt (dOp2 fAdd (dOp2 fAdd (dOp2 fMul (dVar 7) (dVal (.int 16807))) (dOp2 fMul (dVal (.int 7)) (dVar 6))) (dVal (.int 1)))) (dVal (.int 2147483647))))
  (sAppend 3 (dOp2 fMod (dOp1 fInt (dOp2 fDiv (dVar 7) (dVal (.int 997)))) (dVal (.int 1000)))))))))))
  (sRet (dVar 3))))
theorem mf27_eq (s : Nat → Sem) : ms27 s = mf27 s := by unfold ms27 mf27; simp only [dCallN_eq, sAsgN_eq, gNameN_eq]
noncomputable def mf28 (s : Nat → Sem) : MS := (sSeq (sIf (tBool (dCmp .lt (dVar 1) (dLen (dVar 0))))
  (sRet (dIx (dVar 0) (dVar 1)))
  sNil)
  (sRet (dVal (.int 0))))
theorem mf28_eq (s : Nat → Sem) : ms28 s = mf28 s := by unfold ms28 mf28; simp only [dCallN_eq, sAsgN_eq, gNameN_eq]
noncomputable def mf29 (s : Nat → Sem) : MS := (sSeq (sAsgN 2 (dIx (dVar 0) (dVal (.int 1))))
  (sSeq (sSetIx 0 (dVal (.int 1)) (dOp2 fAdd (dVar 2) (dVal (.int 1))))
  (sSeq (sIf (tBool (dCmp .lt (dVar 2) (dLen (dIx (dVar 0) (dVal (.int 0))))))
  (sRet (dOp2 fMod (dOp1 fInt (dIx (dIx (dVar 0) (dVal (.int 0))) (dVar 2))) (dVar 1)))
  sNil)
  (sRet (dVal (.int 0))))))
theorem mf29_eq (s : Nat → Sem) : ms29 s = mf29 s := by unfold ms29 mf29; simp only [dCallN_eq, sAsgN_eq, gNameN_eq]
noncomputable def mf30 (s : Nat → Sem) : MS := (sSeq (sAsgN 1 (dLst [(dLst [(dVal (.int 0))])]))
  (sSeq (sFor (gNameN 2) (mRng2 (dVal (.int 1)) (dOp2 fAdd (dVar 0) (dVal (.int 1))))
  (sSeq (sAsgN 3 (dLst []))
  (sSeq (sFor (gNameN 4) (mRng1 (dVar 2))
  (sFor (gNameN 5) (mSeq (dIx (dVar 1) (dVar 4)))
  (sAsgN 3 (dOp2 fAdd (dVar 3) (dComp [6] (dTup [(dVar 5), (dVar 6)]) (mSeq (dIx (dVar 1) (dOp2 fSub (dOp2 fSub (dVar 2) (dVal (.int 1))) (dVar 4)))) (gNameN 6) (testAll []) [])))))
  (sAppend 1 (dVar 3)))))
  (sRet (dIx (dVar 1) (dVar 0)))))
theorem mf30_eq (s : Nat → Sem) : ms30 s = mf30 s := by unfold ms30 mf30; simp only [dCallN_eq, sAsgN_eq, gNameN_eq]
noncomputable def mf31 (s : Nat → Sem) : MS := (sSeq (sIf (tTru (dOp1 (fIsI .tuple) (dVar 1)))
  (sSeq (sIf (tOr (tNot (tTru (dOp1 (fIsI .tuple) (dVar 0)))) (tBool (dCmp .ne (dLen (dVar 0)) (dLen (dVar 1)))))
  (sRet (dVal (.bool false)))
  sNil)
  (sSeq (sFor (gNameN 2) (mRng1 (dLen (dVar 1)))
  (sIf (tNot (tTru (dCallN (s 31) [(dIx (dVar 0) (dVar 2)), (dIx (dVar 1) (dVar 2))])))
  (sRet (dVal (.bool false)))
  sNil))
  (sRet (dVal (.bool true)))))
  sNil)
  (sSeq (sIf (tBool (dOp1 (fIsN false) (dVar 1)))
  (sRet (dOp1 (fIsN false) (dVar 0)))
  sNil)
  (sSeq (sIf (tTru (dOp1 (fIsI .bool) (dVar 1)))
  (sRet (dAnd (dOp1 (fIsI .bool) (dVar 0)) (dCmp .eq (dVar 0) (dVar 1))))
  sNil)
  (sSeq (sIf (tTru (dOp1 (fIsI .int) (dVar 1)))
  (sRet (dAnd (dOp1 (fIsI .int) (dVar 0)) (dAnd (dNot (dOp1 (fIsI .bool) (dVar 0))) (dCmp .eq (dVar 0) (dVar 1)))))
  sNil)
  (sRet (dAnd (dOp1 (fIsI .str) (dVar 0)) (dCmp .eq (dVar 0) (dVar 1))))))))
theorem mf31_eq (s : Nat → Sem) : ms31 s = mf31 s := by unfold ms31 mf31; simp only [dCallN_eq, sAsgN_eq, gNameN_eq]
noncomputable def mf32 (s : Nat → Sem) : MS := (sSeq (sIf (tBool (dCmp .eq (dVar 0) (dVal (.int 0))))
  (sRet (dLst []))
  sNil)
  (sSeq (sAsgG (gTup [(gNameN 2), (gNameN 3)]) (dVar 0))
  (sSeq (sAsgN 1 (dLst []))
  (sSeq (sIf (tBool (dCmp .ne (dVar 2) (dVal (.int 0))))
  (sAppend 1 (dTup [(dIx (dVar 2) (dVal (.int 0))), (dTup [(dIx (dVar 2) (dVal (.int 1))), (dVar 3)])]))
  sNil)
  (sRet (dOp2 fAdd (dOp2 fAdd (dVar 1) (dComp [4] (dTup [(dVar 4), (dVar 3)]) (mSeq (dCallN (s 32) [(dVar 2)])) (gNameN 4) (testAll []) [])) (dComp [4] (dTup [(dVar 2), (dVar 4)]) (mSeq (dCallN (s 32) [(dVar 3)])) (gNameN 4) (testAll []) [])))))))
theorem mf32_eq (s : Nat → Sem) : ms32 s = mf32 s := by unfold ms32 mf32; simp only [dCallN_eq, sAsgN_eq, gNameN_eq]
noncomputable def mf33 (s : Nat → Sem) : MS := (sSeq (sAsgN 2 (dLst []))
  (sSeq (sFor (gNameN 3) (mRng1 (dVar 0))
  (sSeq (sAsgN 4 (dLst [(dVar 3)]))
  (sSeq (sFor (gNameN 5) (mRng1 (dVar 0))
  (sIf (tBool (dCmp .lt (dVar 5) (dLen (dVar 4))))
  (sAsgN 4 (dOp2 fAdd (dVar 4) (dComp [6] (dVar 6) (mRng1 (dVar 0)) (gNameN 6) (tAnd (tBool (dIn false (dTup [(dIx (dVar 4) (dVar 5)), (dVar 6)]) (dVar 1))) (tBool (dIn true (dVar 6) (dVar 4)))) [])))
  sNil))
  (sAppend 2 (dEat (fEat .tuple) (mSeq (dEat (fEat .sorted) (mLst (dVar 4)))))))))
  (sRet (dEat (fEat .tuple) (mSeq (dVar 2))))))
theorem mf33_eq (s : Nat → Sem) : ms33 s = mf33 s := by unfold ms33 mf33; simp only [dCallN_eq, sAsgN_eq, gNameN_eq]
noncomputable def mf34 (s : Nat → Sem) : MS := (sRet (dCmp .eq (dLen (dComp [2] (dVar 2) (mSeq (dVar 0)) (gNameN 2) (tBool (dIn true (dVar 2) (dVar 1))) [])) (dVal (.int 0))))
theorem mf34_eq (s : Nat → Sem) : ms34 s = mf34 s := by unfold ms34 mf34; simp only [dCallN_eq, sAsgN_eq, gNameN_eq]
noncomputable def mf35 (s : Nat → Sem) : MS := (sSeq (sIf (tBool (dCmp .eq (dVar 0) (dVal (.int 0))))
  (sRet (dTup []))
  sNil)
  (sRet (dOp2 fAdd (dOp2 fAdd (dCallN (s 35) [(dIx (dVar 0) (dVal (.int 0)))]) (dTup [(dCallN (s 25) [(dIx (dVar 0) (dVal (.int 1)))])])) (dCallN (s 35) [(dIx (dVar 0) (dVal (.int 1)))]))))
theorem mf35_eq (s : Nat → Sem) : ms35 s = mf35 s := by unfold ms35 mf35; simp only [dCallN_eq, sAsgN_eq, gNameN_eq]
noncomputable def mf36 (s : Nat → Sem) : MS := (sSeq (sIf (tBool (dCmp .eq (dVar 0) (dVal (.int 0))))
  (sRet (dVal (.str "x")))
  sNil)
  (sRet (dOp2 fAdd (dOp2 fAdd (dOp2 fAdd (dVal (.str "(")) (dCallN (s 36) [(dIx (dVar 0) (dVal (.int 0)))])) (dCallN (s 36) [(dIx (dVar 0) (dVal (.int 1)))])) (dVal (.str ")")))))
theorem mf36_eq (s : Nat → Sem) : ms36 s = mf36 s := by unfold ms36 mf36; simp only [dCallN_eq, sAsgN_eq, gNameN_eq]
noncomputable def mf37 (s : Nat → Sem) : MS := (sSeq (sIf (tBool (dCmp .eq (dVar 0) (dVal (.int 0))))
  (sRet (dVal (.int 0)))
  sNil)
  (sRet (dTup [(dCallN (s 37) [(dIx (dVar 0) (dVal (.int 1)))]), (dCallN (s 37) [(dIx (dVar 0) (dVal (.int 0)))])])))
theorem mf37_eq (s : Nat → Sem) : ms37 s = mf37 s := by unfold ms37 mf37; simp only [dCallN_eq, sAsgN_eq, gNameN_eq]
noncomputable def mf38 (s : Nat → Sem) : MS := (sSeq (sAsgN 1 (dCallN (s 26) [(dVar 0), (dVal (.int 0)), (dVal (.int 62))]))
  (sSeq (sAsgN 2 (dCallIO (s 29) 1 [(dVal (.int 5))]))
  (sSeq (sAsgN 3 (dCallN (s 30) [(dVar 2)]))
  (sSeq (sIf (tOr (tNot (tTru (dCallN (s 31) [(dCallN (s 0) [(dVar 2)]), (dEat (fEat .tuple) (mSeq (dVar 3)))]))) (tNot (tTru (dCallN (s 31) [(dCallN (s 13) [(dVar 2)]), (dLen (dVar 3))]))))
  (sRet (dVal (.bool false)))
  sNil)
  (sSeq (sAsgN 4 (dLst []))
  (sSeq (sFor (gNameN 5) (mRng1 (dLen (dVar 3)))
  (sAsgN 4 (dOp2 fAdd (dVar 4) (dComp [19] (dTup [(dVar 5), (dMethL fIndexL (dVar 3) (dVar 19))]) (mSeq (dCallN (s 32) [(dIx (dVar 3) (dVar 5))])) (gNameN 19) (testAll []) []))))
  (sSeq (sAsgN 6 (dCallN (s 33) [(dLen (dVar 3)), (dVar 4)]))
  (sSeq (sAsgN 7 (dCallN (s 8) [(dVar 2)]))
  (sSeq (sIf (tOr (tNot (tTru (dCallN (s 31) [(dVar 7), (dTup [(dVal (.str "lattice")), (dLen (dVar 3)), (dVar 6)])]))) (tAnd (tBool (dCmp .lt (dVar 2) (dVal (.int 4)))) (tBool (dOp1 (fIsB true true) (dCallN (s 24) [(dVar 7)])))))
  (sRet (dVal (.bool false)))
  sNil)
  (sSeq (sAsgN 8 (dComp [17] (dCallN (s 35) [(dVar 17)]) (mSeq (dVar 3)) (gNameN 17) (testAll []) []))
  (sSeq (sFor (gNameN 9) (mRng1 (dVal (.int 3)))
  (sSeq (sAsgN 10 (dOp2 fMod (dOp1 fInt (dCallIO (s 29) 1 [(dVal (.int 1000))])) (dLen (dVar 3))))
  (sSeq (sAsgN 11 (dOp2 fMod (dOp1 fInt (dCallIO (s 29) 1 [(dVal (.int 1000))])) (dLen (dVar 3))))
  (sSeq (sIf (tOr (tNot (tTru (dCallN (s 31) [(dEat (fEat .tuple) (mSeq (dCallN (s 2) [(dIx (dVar 3) (dVar 10))]))), (dEat (fEat .tuple) (mSeq (dCallN (s 32) [(dIx (dVar 3) (dVar 10))])))]))) (tNot (tTru (dCallN (s 31) [(dCallN (s 4) [(dIx (dVar 3) (dVar 10))]), (dIx (dVar 8) (dVar 10))]))))
  (sRet (dVal (.bool false)))
  sNil)
  (sSeq (sIf (tOr (tNot (tTru (dCallN (s 31) [(dCallN (s 6) [(dIx (dVar 8) (dVar 10))]), (dIx (dVar 3) (dVar 10))]))) (tNot (tTru (dCallN (s 31) [(dCallN (s 12) [(dIx (dVar 3) (dVar 10))]), (dCallN (s 36) [(dIx (dVar 3) (dVar 10))])]))))
  (sRet (dVal (.bool false)))
  sNil)
  (sSeq (sIf (tNot (tTru (dCallN (s 31) [(dCallN (s 3) [(dIx (dVar 3) (dVar 10))]), (dCallN (s 37) [(dIx (dVar 3) (dVar 10))])])))
  (sRet (dVal (.bool false)))
  sNil)
  (sSeq (sAsgN 12 (dComp [18] (dVar 18) (mSeq (dIx (dVar 6) (dVar 10))) (gNameN 18) (tBool (dIn false (dVar 18) (dIx (dVar 6) (dVar 11)))) []))
  (sSeq (sAsgN 13 (dComp [18] (dVar 18) (mSeq (dVar 12)) (gNameN 18) (tTru (dCallN (s 34) [(dVar 12), (dIx (dVar 6) (dVar 18))])) []))
  (sSeq (sAsgN 14 (dComp [18] (dVar 18) (mRng1 (dLen (dVar 3))) (gNameN 18) (tAnd (tBool (dIn false (dVar 10) (dIx (dVar 6) (dVar 18)))) (tBool (dIn false (dVar 11) (dIx (dVar 6) (dVar 18))))) []))
  (sSeq (sAsgN 15 (dComp [18] (dVar 18) (mSeq (dVar 14)) (gNameN 18) (tBool (dCmp .eq (dLen (dComp [20] (dVar 20) (mSeq (dVar 14)) (gNameN 20) (tBool (dIn true (dVar 18) (dIx (dVar 6) (dVar 20)))) [])) (dVal (.int 0)))) []))
  (sSeq (sIf (tOr (tBool (dCmp .ne (dLen (dVar 13)) (dVal (.int 1)))) (tBool (dCmp .ne (dLen (dVar 15)) (dVal (.int 1)))))
  (sRet (dVal (.bool false)))
  sNil)
  (sSeq (sIf (tOr (tNot (tTru (dCallN (s 31) [(dCallN (s 10) [(dIx (dVar 3) (dVar 10)), (dIx (dVar 3) (dVar 11))]), (dIx (dVar 3) (dIx (dVar 13) (dVal (.int 0))))]))) (tNot (tTru (dCallN (s 31) [(dCallN (s 11) [(dIx (dVar 3) (dVar 10)), (dIx (dVar 3) (dVar 11))]), (dIx (dVar 3) (dIx (dVar 15) (dVal (.int 0))))]))))
  (sRet (dVal (.bool false)))
  sNil)
  (sSeq (sAsgN 16 (dEat (fEat .tuple) (mSeq (dComp [5] (dCallIO (s 29) 1 [(dVal (.int 4))]) (mRng1 (dVar 2)) (gNameN 5) (testAll []) []))))
  (sIf (tNot (tTru (dCallN (s 31) [(dCallN (s 5) [(dVar 16)]), (dIn false (dVar 16) (dVar 8))])))
  (sRet (dVal (.bool false)))
  sNil))))))))))))))
  (sRet (dVal (.bool true))))))))))))))
theorem mf38_eq (s : Nat → Sem) : ms38 s = mf38 s := by unfold ms38 mf38; simp only [dCallN_eq, sAsgN_eq, gNameN_eq]
noncomputable def step (s : Nat → Sem) : Nat → Sem
  | 0 => fnSem false 1 7 (mf0 s)
  | 1 => fnSem false 1 1 (mf1 s)
  | 2 => fnSem false 1 5 (mf2 s)
  | 3 => fnSem false 1 1 (mf3 s)
  | 4 => fnSem false 1 1 (mf4 s)
  | 5 => fnSem false 1 5 (mf5 s)
  | 6 => fnSem false 1 3 (mf6 s)
  | 7 => fnSem false 2 4 (mf7 s)
  | 8 => fnSem false 1 6 (mf8 s)
  | 9 => fnSem false 2 4 (mf9 s)
  | 10 => fnSem false 2 3 (mf10 s)
  | 11 => fnSem false 2 2 (mf11 s)
  | 12 => fnSem false 1 1 (mf12 s)
  | 13 => fnSem false 1 4 (mf13 s)
  | 14 => fnSem false 2 2 (mf14 s)
  | 15 => fnSem false 2 4 (mf15 s)
  | 16 => fnSem false 2 3 (mf16 s)
  | 17 => fnSem false 2 3 (mf17 s)
  | 18 => fnSem false 2 8 (mf18 s)
  | 19 => fnSem false 1 6 (mf19 s)
  | 20 => fnSem false 2 4 (mf20 s)
  | 21 => fnSem false 3 3 (mf21 s)
  | 22 => fnSem false 1 1 (mf22 s)
  | 23 => fnSem false 1 4 (mf23 s)
  | 24 => fnSem false 1 1 (mf24 s)
  | 25 => fnSem false 1 1 (mf25 s)
  | 26 => fnSem false 3 3 (mf26 s)
  | 27 => fnSem false 3 8 (mf27 s)
  | 28 => fnSem false 2 2 (mf28 s)
  | 29 => fnSem true 2 3 (mf29 s)
  | 30 => fnSem false 1 7 (mf30 s)
  | 31 => fnSem false 2 3 (mf31 s)
  | 32 => fnSem false 1 5 (mf32 s)
  | 33 => fnSem false 2 7 (mf33 s)
  | 34 => fnSem false 2 3 (mf34 s)
  | 35 => fnSem false 1 1 (mf35 s)
  | 36 => fnSem false 1 1 (mf36 s)
  | 37 => fnSem false 1 1 (mf37 s)
  | 38 => fnSem false 1 21 (mf38 s)
  | _ => fnSem false 1 7 (mf0 s)
def rowN : Nat → DefRow
  | 0 => r0
  | 1 => r1
  | 2 => r2
  | 3 => r3
  | 4 => r4
  | 5 => r5
  | 6 => r6
  | 7 => r7
  | 8 => r8
  | 9 => r9
  | 10 => r10
  | 11 => r11
  | 12 => r12
  | 13 => r13
  | 14 => r14
  | 15 => r15
  | 16 => r16
  | 17 => r17
  | 18 => r18
  | 19 => r19
  | 20 => r20
  | 21 => r21
  | 22 => r22
  | 23 => r23
  | 24 => r24
  | 25 => r25
  | 26 => r26
  | 27 => r27
  | 28 => r28
  | 29 => r29
  | 30 => r30
  | 31 => r31
  | 32 => r32
  | 33 => r33
  | 34 => r34
  | 35 => r35
  | 36 => r36
  | 37 => r37
  | 38 => r38
  | _ => r0
def sm (m : Nat) (i : Nat) : Sem := semOf (fnAt rows m) (rowN i)
theorem tr0 (m : Nat) : semOf (fnAt rows (m + 1)) r0 = fnSem false 1 7 (ms0 (sm m)) := by kernel_rfl
theorem tr1 (m : Nat) : semOf (fnAt rows (m + 1)) r1 = fnSem false 1 1 (ms1 (sm m)) := by kernel_rfl
theorem tr2 (m : Nat) : semOf (fnAt rows (m + 1)) r2 = fnSem false 1 5 (ms2 (sm m)) := by kernel_rfl
theorem tr3 (m : Nat) : semOf (fnAt rows (m + 1)) r3 = fnSem false 1 1 (ms3 (sm m)) := by kernel_rfl
theorem tr4 (m : Nat) : semOf (fnAt rows (m + 1)) r4 = fnSem false 1 1 (ms4 (sm m)) := by kernel_rfl
theorem tr5 (m : Nat) : semOf (fnAt rows (m + 1)) r5 = fnSem false 1 5 (ms5 (sm m)) := by kernel_rfl
theorem tr6 (m : Nat) : semOf (fnAt rows (m + 1)) r6 = fnSem false 1 3 (ms6 (sm m)) := by kernel_rfl
theorem tr7 (m : Nat) : semOf (fnAt rows (m + 1)) r7 = fnSem false 2 4 (ms7 (sm m)) := by kernel_rfl
theorem tr8 (m : Nat) : semOf (fnAt rows (m + 1)) r8 = fnSem false 1 6 (ms8 (sm m)) := by kernel_rfl
theorem tr9 (m : Nat) : semOf (fnAt rows (m + 1)) r9 = fnSem false 2 4 (ms9 (sm m)) := by kernel_rfl
theorem tr10 (m : Nat) : semOf (fnAt rows (m + 1)) r10 = fnSem false 2 3 (ms10 (sm m)) := by kernel_rfl
theorem tr11 (m : Nat) : semOf (fnAt rows (m + 1)) r11 = fnSem false 2 2 (ms11 (sm m)) := by kernel_rfl
theorem tr12 (m : Nat) : semOf (fnAt rows (m + 1)) r12 = fnSem false 1 1 (ms12 (sm m)) := by kernel_rfl
theorem tr13 (m : Nat) : semOf (fnAt rows (m + 1)) r13 = fnSem false 1 4 (ms13 (sm m)) := by kernel_rfl
theorem tr14 (m : Nat) : semOf (fnAt rows (m + 1)) r14 = fnSem false 2 2 (ms14 (sm m)) := by kernel_rfl
theorem tr15 (m : Nat) : semOf (fnAt rows (m + 1)) r15 = fnSem false 2 4 (ms15 (sm m)) := by kernel_rfl
theorem tr16 (m : Nat) : semOf (fnAt rows (m + 1)) r16 = fnSem false 2 3 (ms16 (sm m)) := by kernel_rfl
theorem tr17 (m : Nat) : semOf (fnAt rows (m + 1)) r17 = fnSem false 2 3 (ms17 (sm m)) := by kernel_rfl
theorem tr18 (m : Nat) : semOf (fnAt rows (m + 1)) r18 = fnSem false 2 8 (ms18 (sm m)) := by kernel_rfl
theorem tr19 (m : Nat) : semOf (fnAt rows (m + 1)) r19 = fnSem false 1 6 (ms19 (sm m)) := by kernel_rfl
theorem tr20 (m : Nat) : semOf (fnAt rows (m + 1)) r20 = fnSem false 2 4 (ms20 (sm m)) := by kernel_rfl
theorem tr21 (m : Nat) : semOf (fnAt rows (m + 1)) r21 = fnSem false 3 3 (ms21 (sm m)) := by kernel_rfl
theorem tr22 (m : Nat) : semOf (fnAt rows (m + 1)) r22 = fnSem false 1 1 (ms22 (sm m)) := by kernel_rfl
theorem tr23 (m : Nat) : semOf (fnAt rows (m + 1)) r23 = fnSem false 1 4 (ms23 (sm m)) := by kernel_rfl
theorem tr24 (m : Nat) : semOf (fnAt rows (m + 1)) r24 = fnSem false 1 1 (ms24 (sm m)) := by kernel_rfl
theorem tr25 (m : Nat) : semOf (fnAt rows (m + 1)) r25 = fnSem false 1 1 (ms25 (sm m)) := by kernel_rfl
theorem tr26 (m : Nat) : semOf (fnAt rows (m + 1)) r26 = fnSem false 3 3 (ms26 (sm m)) := by kernel_rfl
theorem tr27 (m : Nat) : semOf (fnAt rows (m + 1)) r27 = fnSem false 3 8 (ms27 (sm m)) := by kernel_rfl
theorem tr28 (m : Nat) : semOf (fnAt rows (m + 1)) r28 = fnSem false 2 2 (ms28 (sm m)) := by kernel_rfl
theorem tr29 (m : Nat) : semOf (fnAt rows (m + 1)) r29 = fnSem true 2 3 (ms29 (sm m)) := by kernel_rfl
theorem tr30 (m : Nat) : semOf (fnAt rows (m + 1)) r30 = fnSem false 1 7 (ms30 (sm m)) := by kernel_rfl
theorem tr31 (m : Nat) : semOf (fnAt rows (m + 1)) r31 = fnSem false 2 3 (ms31 (sm m)) := by kernel_rfl
theorem tr32 (m : Nat) : semOf (fnAt rows (m + 1)) r32 = fnSem false 1 5 (ms32 (sm m)) := by kernel_rfl
theorem tr33 (m : Nat) : semOf (fnAt rows (m + 1)) r33 = fnSem false 2 7 (ms33 (sm m)) := by kernel_rfl
theorem tr34 (m : Nat) : semOf (fnAt rows (m + 1)) r34 = fnSem false 2 3 (ms34 (sm m)) := by kernel_rfl
theorem tr35 (m : Nat) : semOf (fnAt rows (m + 1)) r35 = fnSem false 1 1 (ms35 (sm m)) := by kernel_rfl
theorem tr36 (m : Nat) : semOf (fnAt rows (m + 1)) r36 = fnSem false 1 1 (ms36 (sm m)) := by kernel_rfl
theorem tr37 (m : Nat) : semOf (fnAt rows (m + 1)) r37 = fnSem false 1 1 (ms37 (sm m)) := by kernel_rfl
theorem tr38 (m : Nat) : semOf (fnAt rows (m + 1)) r38 = fnSem false 1 21 (ms38 (sm m)) := by kernel_rfl
theorem sm_step (m : Nat) : sm (m + 1) = step (sm m) := by
  funext j
  unfold sm
  match j with
  | 0 => exact (tr0 m).trans (by rw [mf0_eq]; rfl)
  | 1 => exact (tr1 m).trans (by rw [mf1_eq]; rfl)
  | 2 => exact (tr2 m).trans (by rw [mf2_eq]; rfl)
  | 3 => exact (tr3 m).trans (by rw [mf3_eq]; rfl)
  | 4 => exact (tr4 m).trans (by rw [mf4_eq]; rfl)
  | 5 => exact (tr5 m).trans (by rw [mf5_eq]; rfl)
  | 6 => exact (tr6 m).trans (by rw [mf6_eq]; rfl)
  | 7 => exact (tr7 m).trans (by rw [mf7_eq]; rfl)
  | 8 => exact (tr8 m).trans (by rw [mf8_eq]; rfl)
  | 9 => exact (tr9 m).trans (by rw [mf9_eq]; rfl)
  | 10 => exact (tr10 m).trans (by rw [mf10_eq]; rfl)
  | 11 => exact (tr11 m).trans (by rw [mf11_eq]; rfl)
  | 12 => exact (tr12 m).trans (by rw [mf12_eq]; rfl)
  | 13 => exact (tr13 m).trans (by rw [mf13_eq]; rfl)
  | 14 => exact (tr14 m).trans (by rw [mf14_eq]; rfl)
  | 15 => exact (tr15 m).trans (by rw [mf15_eq]; rfl)
  | 16 => exact (tr16 m).trans (by rw [mf16_eq]; rfl)
  | 17 => exact (tr17 m).trans (by rw [mf17_eq]; rfl)
  | 18 => exact (tr18 m).trans (by rw [mf18_eq]; rfl)
  | 19 => exact (tr19 m).trans (by rw [mf19_eq]; rfl)
  | 20 => exact (tr20 m).trans (by rw [mf20_eq]; rfl)
  | 21 => exact (tr21 m).trans (by rw [mf21_eq]; rfl)
  | 22 => exact (tr22 m).trans (by rw [mf22_eq]; rfl)
  | 23 => exact (tr23 m).trans (by rw [mf23_eq]; rfl)
  | 24 => exact (tr24 m).trans (by rw [mf24_eq]; rfl)
  | 25 => exact (tr25 m).trans (by rw [mf25_eq]; rfl)
  | 26 => exact (tr26 m).trans (by rw [mf26_eq]; rfl)
  | 27 => exact (tr27 m).trans (by rw [mf27_eq]; rfl)
  | 28 => exact (tr28 m).trans (by rw [mf28_eq]; rfl)
  | 29 => exact (tr29 m).trans (by rw [mf29_eq]; rfl)
  | 30 => exact (tr30 m).trans (by rw [mf30_eq]; rfl)
  | 31 => exact (tr31 m).trans (by rw [mf31_eq]; rfl)
  | 32 => exact (tr32 m).trans (by rw [mf32_eq]; rfl)
  | 33 => exact (tr33 m).trans (by rw [mf33_eq]; rfl)
  | 34 => exact (tr34 m).trans (by rw [mf34_eq]; rfl)
  | 35 => exact (tr35 m).trans (by rw [mf35_eq]; rfl)
  | 36 => exact (tr36 m).trans (by rw [mf36_eq]; rfl)
  | 37 => exact (tr37 m).trans (by rw [mf37_eq]; rfl)
  | 38 => exact (tr38 m).trans (by rw [mf38_eq]; rfl)
  | _ + 39 => exact (tr0 m).trans (by rw [mf0_eq]; rfl)
noncomputable def L0 : Nat → Sem := sm 0
noncomputable def L1 : Nat → Sem := step L0
noncomputable def L2 : Nat → Sem := step L1
noncomputable def L3 : Nat → Sem := step L2
noncomputable def L4 : Nat → Sem := step L3
noncomputable def L5 : Nat → Sem := step L4
noncomputable def L6 : Nat → Sem := step L5
noncomputable def L7 : Nat → Sem := step L6
noncomputable def L8 : Nat → Sem := step L7
noncomputable def L9 : Nat → Sem := step L8
noncomputable def L10 : Nat → Sem := step L9
noncomputable def L11 : Nat → Sem := step L10
noncomputable def L12 : Nat → Sem := step L11
noncomputable def L13 : Nat → Sem := step L12
noncomputable def L14 : Nat → Sem := step L13
noncomputable def L15 : Nat → Sem := step L14
noncomputable def L16 : Nat → Sem := step L15
theorem sm0 : sm 0 = L0 := rfl
theorem sm1 : sm 1 = L1 := by rw [show (1 : Nat) = 0 + 1 from rfl, sm_step, sm0]; rfl
theorem sm2 : sm 2 = L2 := by rw [show (2 : Nat) = 1 + 1 from rfl, sm_step, sm1]; rfl
theorem sm3 : sm 3 = L3 := by rw [show (3 : Nat) = 2 + 1 from rfl, sm_step, sm2]; rfl
theorem sm4 : sm 4 = L4 := by rw [show (4 : Nat) = 3 + 1 from rfl, sm_step, sm3]; rfl
theorem sm5 : sm 5 = L5 := by rw [show (5 : Nat) = 4 + 1 from rfl, sm_step, sm4]; rfl
theorem sm6 : sm 6 = L6 := by rw [show (6 : Nat) = 5 + 1 from rfl, sm_step, sm5]; rfl
theorem sm7 : sm 7 = L7 := by rw [show (7 : Nat) = 6 + 1 from rfl, sm_step, sm6]; rfl
theorem sm8 : sm 8 = L8 := by rw [show (8 : Nat) = 7 + 1 from rfl, sm_step, sm7]; rfl
theorem sm9 : sm 9 = L9 := by rw [show (9 : Nat) = 8 + 1 from rfl, sm_step, sm8]; rfl
theorem sm10 : sm 10 = L10 := by rw [show (10 : Nat) = 9 + 1 from rfl, sm_step, sm9]; rfl
theorem sm11 : sm 11 = L11 := by rw [show (11 : Nat) = 10 + 1 from rfl, sm_step, sm10]; rfl
theorem sm12 : sm 12 = L12 := by rw [show (12 : Nat) = 11 + 1 from rfl, sm_step, sm11]; rfl
theorem sm13 : sm 13 = L13 := by rw [show (13 : Nat) = 12 + 1 from rfl, sm_step, sm12]; rfl
theorem sm14 : sm 14 = L14 := by rw [show (14 : Nat) = 13 + 1 from rfl, sm_step, sm13]; rfl
theorem sm15 : sm 15 = L15 := by rw [show (15 : Nat) = 14 + 1 from rfl, sm_step, sm14]; rfl
theorem sm16 : sm 16 = L16 := by rw [show (16 : Nat) = 15 + 1 from rfl, sm_step, sm15]; rfl
end K84
end

section
set_option Elab.async false
set_option linter.all false
set_option maxRecDepth 100000
set_option maxHeartbeats 0
namespace K84
open PySem LH
noncomputable def pre : List MS := [(sAsgN 3 (dCallN (L11 30) [(dVar 2)])),
  (sIf (tOr (tNot (tTru (dCallN (L11 31) [(dCallN (L11 0) [(dVar 2)]), (dEat (fEat .tuple) (mSeq (dVar 3)))]))) (tNot (tTru (dCallN (L11 31) [(dCallN (L11 13) [(dVar 2)]), (dLen (dVar 3))]))))
  (sRet (dVal (.bool false)))
  sNil),
  (sAsgN 4 (dLst [])),
  (sFor (gNameN 5) (mRng1 (dLen (dVar 3)))
  (sAsgN 4 (dOp2 fAdd (dVar 4) (dComp [19] (dTup [(dVar 5), (dMethL fIndexL (dVar 3) (dVar 19))]) (mSeq (dCallN (L11 32) [(dIx (dVar 3) (dVar 5))])) (gNameN 19) (testAll []) [])))),
  (sAsgN 6 (dCallN (L11 33) [(dLen (dVar 3)), (dVar 4)])),
  (sAsgN 7 (dCallN (L11 8) [(dVar 2)])),
  (sIf (tOr (tNot (tTru (dCallN (L11 31) [(dVar 7), (dTup [(dVal (.str "lattice")), (dLen (dVar 3)), (dVar 6)])]))) (tAnd (tBool (dCmp .lt (dVar 2) (dVal (.int 4)))) (tBool (dOp1 (fIsB true true) (dCallN (L11 24) [(dVar 7)])))))
  (sRet (dVal (.bool false)))
  sNil),
  (sAsgN 8 (dComp [17] (dCallN (L11 35) [(dVar 17)]) (mSeq (dVar 3)) (gNameN 17) (testAll []) []))]
noncomputable def c1 : MT := (tOr (tNot (tTru (dCallN (L11 31) [(dEat (fEat .tuple) (mSeq (dCallN (L11 2) [(dIx (dVar 3) (dVar 10))]))), (dEat (fEat .tuple) (mSeq (dCallN (L11 32) [(dIx (dVar 3) (dVar 10))])))]))) (tNot (tTru (dCallN (L11 31) [(dCallN (L11 4) [(dIx (dVar 3) (dVar 10))]), (dIx (dVar 8) (dVar 10))]))))
noncomputable def c2 : MT := (tOr (tNot (tTru (dCallN (L11 31) [(dCallN (L11 6) [(dIx (dVar 8) (dVar 10))]), (dIx (dVar 3) (dVar 10))]))) (tNot (tTru (dCallN (L11 31) [(dCallN (L11 12) [(dIx (dVar 3) (dVar 10))]), (dCallN (L11 36) [(dIx (dVar 3) (dVar 10))])]))))
noncomputable def c3 : MT := (tNot (tTru (dCallN (L11 31) [(dCallN (L11 3) [(dIx (dVar 3) (dVar 10))]), (dCallN (L11 37) [(dIx (dVar 3) (dVar 10))])])))
noncomputable def c4 : MT := (tOr (tBool (dCmp .ne (dLen (dVar 13)) (dVal (.int 1)))) (tBool (dCmp .ne (dLen (dVar 15)) (dVal (.int 1)))))
noncomputable def c5 : MT := (tOr (tNot (tTru (dCallN (L11 31) [(dCallN (L11 10) [(dIx (dVar 3) (dVar 10)), (dIx (dVar 3) (dVar 11))]), (dIx (dVar 3) (dIx (dVar 13) (dVal (.int 0))))]))) (tNot (tTru (dCallN (L11 31) [(dCallN (L11 11) [(dIx (dVar 3) (dVar 10)), (dIx (dVar 3) (dVar 11))]), (dIx (dVar 3) (dIx (dVar 15) (dVal (.int 0))))]))))
noncomputable def c6 : MT := (tNot (tTru (dCallN (L11 31) [(dCallN (L11 5) [(dVar 16)]), (dIn false (dVar 16) (dVar 8))])))
noncomputable def e12 : ME := (dComp [18] (dVar 18) (mSeq (dIx (dVar 6) (dVar 10))) (gNameN 18) (tBool (dIn false (dVar 18) (dIx (dVar 6) (dVar 11)))) [])
noncomputable def e13 : ME := (dComp [18] (dVar 18) (mSeq (dVar 12)) (gNameN 18) (tTru (dCallN (L11 34) [(dVar 12), (dIx (dVar 6) (dVar 18))])) [])
noncomputable def e14 : ME := (dComp [18] (dVar 18) (mRng1 (dLen (dVar 3))) (gNameN 18) (tAnd (tBool (dIn false (dVar 10) (dIx (dVar 6) (dVar 18)))) (tBool (dIn false (dVar 11) (dIx (dVar 6) (dVar 18))))) [])
noncomputable def e15 : ME := (dComp [18] (dVar 18) (mSeq (dVar 14)) (gNameN 18) (tBool (dCmp .eq (dLen (dComp [20] (dVar 20) (mSeq (dVar 14)) (gNameN 20) (tBool (dIn true (dVar 18) (dIx (dVar 6) (dVar 20)))) [])) (dVal (.int 0)))) [])
noncomputable def drawX (i : Nat) : MS := (sAsgN i (dOp2 fMod (dOp1 fInt (dCallIO (L11 29) 1 [(dVal (.int 1000))])) (dLen (dVar 3))))
noncomputable def drawsE : ME := (dEat (fEat .tuple) (mSeq (dComp [5] (dCallIO (L11 29) 1 [(dVal (.int 4))]) (mRng1 (dVar 2)) (gNameN 5) (testAll []) [])))
def no (c : MT) : MS := sIf c (sRet (dVal (.bool false))) sNil
noncomputable def turnS : MS := sSeq (drawX 10) (sSeq (drawX 11) (sSeq (no c1) (sSeq (no c2) (sSeq (no c3) (sSeq (sAsgN 12 e12) (sSeq (sAsgN 13 e13) (sSeq (sAsgN 14 e14) (sSeq (sAsgN 15 e15) (sSeq (no c4) (sSeq (no c5) (sSeq (sAsgN 16 drawsE) (no c6))))))))))))
theorem law_text : mf38 L11 = sSeq (sAsgN 1 (dCallN (L11 26) [(dVar 0), (dVal (.int 0)), (dVal (.int 62))])) (sSeq (sAsgN 2 (dCallIO (L11 29) 1 [(dVal (.int 5))])) (seqs pre (sSeq (sFor (gNameN 9) (mRng1 (dVal (.int 3))) turnS) (sRet (dVal (.bool true)))))) := rfl
def w3 : Nat → List D
  | 0 => [(.int 0)]
  | 1 => [(.tuple [(.int 0), (.int 0)])]
  | 2 => [(.tuple [(.int 0), (.tuple [(.int 0), (.int 0)])]), (.tuple [(.tuple [(.int 0), (.int 0)]), (.int 0)])]
  | 3 => [(.tuple [(.int 0), (.tuple [(.int 0), (.tuple [(.int 0), (.int 0)])])]), (.tuple [(.int 0), (.tuple [(.tuple [(.int 0), (.int 0)]), (.int 0)])]), (.tuple [(.tuple [(.int 0), (.int 0)]), (.tuple [(.int 0), (.int 0)])]), (.tuple [(.tuple [(.int 0), (.tuple [(.int 0), (.int 0)])]), (.int 0)]), (.tuple [(.tuple [(.tuple [(.int 0), (.int 0)]), (.int 0)]), (.int 0)])]
  | 4 => [(.tuple [(.int 0), (.tuple [(.int 0), (.tuple [(.int 0), (.tuple [(.int 0), (.int 0)])])])]), (.tuple [(.int 0), (.tuple [(.int 0), (.tuple [(.tuple [(.int 0), (.int 0)]), (.int 0)])])]), (.tuple [(.int 0), (.tuple [(.tuple [(.int 0), (.int 0)]), (.tuple [(.int 0), (.int 0)])])]), (.tuple [(.int 0), (.tuple [(.tuple [(.int 0), (.tuple [(.int 0), (.int 0)])]), (.int 0)])]), (.tuple [(.int 0), (.tuple [(.tuple [(.tuple [(.int 0), (.int 0)]), (.int 0)]), (.int 0)])]), (.tuple [(.tuple [(.int 0), (.int 0)]), (.tuple [(.int 0), (.tuple [(.int 0), (.int 0)])])]), (.tuple [(.tuple [(.int 0), (.int 0)]), (.tuple [(.tuple [(.int 0), (.int 0)]), (.int 0)])]), (.tuple [(.tuple [(.int 0), (.tuple [(.int 0), (.int 0)])]), (.tuple [(.int 0), (.int 0)])]), (.tuple [(.tuple [(.tuple [(.int 0), (.int 0)]), (.int 0)]), (.tuple [(.int 0), (.int 0)])]), (.tuple [(.tuple [(.int 0), (.tuple [(.int 0), (.tuple [(.int 0), (.int 0)])])]), (.int 0)]), (.tuple [(.tuple [(.int 0), (.tuple [(.tuple [(.int 0), (.int 0)]), (.int 0)])]), (.int 0)]), (.tuple [(.tuple [(.tuple [(.int 0), (.int 0)]), (.tuple [(.int 0), (.int 0)])]), (.int 0)]), (.tuple [(.tuple [(.tuple [(.int 0), (.tuple [(.int 0), (.int 0)])]), (.int 0)]), (.int 0)]), (.tuple [(.tuple [(.tuple [(.tuple [(.int 0), (.int 0)]), (.int 0)]), (.int 0)]), (.int 0)])]
  | _ => []
def w4 : Nat → List D
  | 0 => []
  | 1 => []
  | 2 => [(.tuple [(.int 1), (.int 0)])]
  | 3 => [(.tuple [(.int 1), (.int 0)]), (.tuple [(.int 2), (.int 0)]), (.tuple [(.int 3), (.int 1)]), (.tuple [(.int 4), (.int 2)]), (.tuple [(.int 4), (.int 3)])]
  | 4 => [(.tuple [(.int 1), (.int 0)]), (.tuple [(.int 2), (.int 0)]), (.tuple [(.int 3), (.int 1)]), (.tuple [(.int 4), (.int 2)]), (.tuple [(.int 4), (.int 3)]), (.tuple [(.int 5), (.int 0)]), (.tuple [(.int 6), (.int 1)]), (.tuple [(.int 6), (.int 5)]), (.tuple [(.int 7), (.int 2)]), (.tuple [(.int 8), (.int 5)]), (.tuple [(.int 8), (.int 7)]), (.tuple [(.int 9), (.int 3)]), (.tuple [(.int 10), (.int 4)]), (.tuple [(.int 10), (.int 9)]), (.tuple [(.int 11), (.int 6)]), (.tuple [(.int 11), (.int 9)]), (.tuple [(.int 12), (.int 7)]), (.tuple [(.int 12), (.int 10)]), (.tuple [(.int 13), (.int 8)]), (.tuple [(.int 13), (.int 11)]), (.tuple [(.int 13), (.int 12)])]
  | _ => []
def w5 : Nat → D
  | 0 => (.int 0)
  | 1 => (.int 0)
  | 2 => (.int 1)
  | 3 => (.int 4)
  | 4 => (.int 13)
  | _ => .none
def w6 : Nat → D
  | 0 => (.tuple [(.tuple [(.int 0)])])
  | 1 => (.tuple [(.tuple [(.int 0)])])
  | 2 => (.tuple [(.tuple [(.int 0)]), (.tuple [(.int 0), (.int 1)])])
  | 3 => (.tuple [(.tuple [(.int 0)]), (.tuple [(.int 0), (.int 1)]), (.tuple [(.int 0), (.int 2)]), (.tuple [(.int 0), (.int 1), (.int 3)]), (.tuple [(.int 0), (.int 1), (.int 2), (.int 3), (.int 4)])])
  | 4 => (.tuple [(.tuple [(.int 0)]), (.tuple [(.int 0), (.int 1)]), (.tuple [(.int 0), (.int 2)]), (.tuple [(.int 0), (.int 1), (.int 3)]), (.tuple [(.int 0), (.int 1), (.int 2), (.int 3), (.int 4)]), (.tuple [(.int 0), (.int 5)]), (.tuple [(.int 0), (.int 1), (.int 5), (.int 6)]), (.tuple [(.int 0), (.int 2), (.int 7)]), (.tuple [(.int 0), (.int 2), (.int 5), (.int 7), (.int 8)]), (.tuple [(.int 0), (.int 1), (.int 3), (.int 9)]), (.tuple [(.int 0), (.int 1), (.int 2), (.int 3), (.int 4), (.int 9), (.int 10)]), (.tuple [(.int 0), (.int 1), (.int 3), (.int 5), (.int 6), (.int 9), (.int 11)]), (.tuple [(.int 0), (.int 1), (.int 2), (.int 3), (.int 4), (.int 7), (.int 9), (.int 10), (.int 12)]), (.tuple [(.int 0), (.int 1), (.int 2), (.int 3), (.int 4), (.int 5), (.int 6), (.int 7), (.int 8), (.int 9), (.int 10), (.int 11), (.int 12), (.int 13)])])
  | _ => .none
def w7 : Nat → D
  | 0 => (.tuple [(.str "lattice"), (.int 1), (.tuple [(.tuple [(.int 0)])])])
  | 1 => (.tuple [(.str "lattice"), (.int 1), (.tuple [(.tuple [(.int 0)])])])
  | 2 => (.tuple [(.str "lattice"), (.int 2), (.tuple [(.tuple [(.int 0)]), (.tuple [(.int 0), (.int 1)])])])
  | 3 => (.tuple [(.str "lattice"), (.int 5), (.tuple [(.tuple [(.int 0)]), (.tuple [(.int 0), (.int 1)]), (.tuple [(.int 0), (.int 2)]), (.tuple [(.int 0), (.int 1), (.int 3)]), (.tuple [(.int 0), (.int 1), (.int 2), (.int 3), (.int 4)])])])
  | 4 => (.tuple [(.str "lattice"), (.int 14), (.tuple [(.tuple [(.int 0)]), (.tuple [(.int 0), (.int 1)]), (.tuple [(.int 0), (.int 2)]), (.tuple [(.int 0), (.int 1), (.int 3)]), (.tuple [(.int 0), (.int 1), (.int 2), (.int 3), (.int 4)]), (.tuple [(.int 0), (.int 5)]), (.tuple [(.int 0), (.int 1), (.int 5), (.int 6)]), (.tuple [(.int 0), (.int 2), (.int 7)]), (.tuple [(.int 0), (.int 2), (.int 5), (.int 7), (.int 8)]), (.tuple [(.int 0), (.int 1), (.int 3), (.int 9)]), (.tuple [(.int 0), (.int 1), (.int 2), (.int 3), (.int 4), (.int 9), (.int 10)]), (.tuple [(.int 0), (.int 1), (.int 3), (.int 5), (.int 6), (.int 9), (.int 11)]), (.tuple [(.int 0), (.int 1), (.int 2), (.int 3), (.int 4), (.int 7), (.int 9), (.int 10), (.int 12)]), (.tuple [(.int 0), (.int 1), (.int 2), (.int 3), (.int 4), (.int 5), (.int 6), (.int 7), (.int 8), (.int 9), (.int 10), (.int 11), (.int 12), (.int 13)])])])
  | _ => .none
def w8 : Nat → List D
  | 0 => [(.tuple [])]
  | 1 => [(.tuple [(.int 0)])]
  | 2 => [(.tuple [(.int 1), (.int 0)]), (.tuple [(.int 0), (.int 0)])]
  | 3 => [(.tuple [(.int 2), (.int 1), (.int 0)]), (.tuple [(.int 2), (.int 0), (.int 0)]), (.tuple [(.int 0), (.int 1), (.int 0)]), (.tuple [(.int 1), (.int 0), (.int 0)]), (.tuple [(.int 0), (.int 0), (.int 0)])]
  | 4 => [(.tuple [(.int 3), (.int 2), (.int 1), (.int 0)]), (.tuple [(.int 3), (.int 2), (.int 0), (.int 0)]), (.tuple [(.int 3), (.int 0), (.int 1), (.int 0)]), (.tuple [(.int 3), (.int 1), (.int 0), (.int 0)]), (.tuple [(.int 3), (.int 0), (.int 0), (.int 0)]), (.tuple [(.int 0), (.int 2), (.int 1), (.int 0)]), (.tuple [(.int 0), (.int 2), (.int 0), (.int 0)]), (.tuple [(.int 1), (.int 0), (.int 1), (.int 0)]), (.tuple [(.int 0), (.int 0), (.int 1), (.int 0)]), (.tuple [(.int 2), (.int 1), (.int 0), (.int 0)]), (.tuple [(.int 2), (.int 0), (.int 0), (.int 0)]), (.tuple [(.int 0), (.int 1), (.int 0), (.int 0)]), (.tuple [(.int 1), (.int 0), (.int 0), (.int 0)]), (.tuple [(.int 0), (.int 0), (.int 0), (.int 0)])]
  | _ => []
def g12_0_0 : Nat → List D
  | 0 => [(.int 0)]
  | _ => []
def g12_0 : Nat → Nat → List D
  | 0, y => g12_0_0 y
  | _, _ => []
def g12_1_0 : Nat → List D
  | 0 => [(.int 0)]
  | _ => []
def g12_1 : Nat → Nat → List D
  | 0, y => g12_1_0 y
  | _, _ => []
def g12_2_0 : Nat → List D
  | 0 => [(.int 0)]
  | 1 => [(.int 0)]
  | _ => []
def g12_2_1 : Nat → List D
  | 0 => [(.int 0)]
  | 1 => [(.int 0), (.int 1)]
  | _ => []
def g12_2 : Nat → Nat → List D
  | 0, y => g12_2_0 y
  | 1, y => g12_2_1 y
  | _, _ => []
def g12_3_0 : Nat → List D
  | 0 => [(.int 0)]
  | 1 => [(.int 0)]
  | 2 => [(.int 0)]
  | 3 => [(.int 0)]
  | 4 => [(.int 0)]
  | _ => []
def g12_3_1 : Nat → List D
  | 0 => [(.int 0)]
  | 1 => [(.int 0), (.int 1)]
  | 2 => [(.int 0)]
  | 3 => [(.int 0), (.int 1)]
  | 4 => [(.int 0), (.int 1)]
  | _ => []
def g12_3_2 : Nat → List D
  | 0 => [(.int 0)]
  | 1 => [(.int 0)]
  | 2 => [(.int 0), (.int 2)]
  | 3 => [(.int 0)]
  | 4 => [(.int 0), (.int 2)]
  | _ => []
def g12_3_3 : Nat → List D
  | 0 => [(.int 0)]
  | 1 => [(.int 0), (.int 1)]
  | 2 => [(.int 0)]
  | 3 => [(.int 0), (.int 1), (.int 3)]
  | 4 => [(.int 0), (.int 1), (.int 3)]
  | _ => []
def g12_3_4 : Nat → List D
  | 0 => [(.int 0)]
  | 1 => [(.int 0), (.int 1)]
  | 2 => [(.int 0), (.int 2)]
  | 3 => [(.int 0), (.int 1), (.int 3)]
  | 4 => [(.int 0), (.int 1), (.int 2), (.int 3), (.int 4)]
  | _ => []
def g12_3 : Nat → Nat → List D
  | 0, y => g12_3_0 y
  | 1, y => g12_3_1 y
  | 2, y => g12_3_2 y
  | 3, y => g12_3_3 y
  | 4, y => g12_3_4 y
  | _, _ => []
def g12_4_0 : Nat → List D
  | 0 => [(.int 0)]
  | 1 => [(.int 0)]
  | 2 => [(.int 0)]
  | 3 => [(.int 0)]
  | 4 => [(.int 0)]
  | 5 => [(.int 0)]
  | 6 => [(.int 0)]
  | 7 => [(.int 0)]
  | 8 => [(.int 0)]
  | 9 => [(.int 0)]
  | 10 => [(.int 0)]
  | 11 => [(.int 0)]
  | 12 => [(.int 0)]
  | 13 => [(.int 0)]
  | _ => []
def g12_4_1 : Nat → List D
  | 0 => [(.int 0)]
  | 1 => [(.int 0), (.int 1)]
  | 2 => [(.int 0)]
  | 3 => [(.int 0), (.int 1)]
  | 4 => [(.int 0), (.int 1)]
  | 5 => [(.int 0)]
  | 6 => [(.int 0), (.int 1)]
  | 7 => [(.int 0)]
  | 8 => [(.int 0)]
  | 9 => [(.int 0), (.int 1)]
  | 10 => [(.int 0), (.int 1)]
  | 11 => [(.int 0), (.int 1)]
  | 12 => [(.int 0), (.int 1)]
  | 13 => [(.int 0), (.int 1)]
  | _ => []
def g12_4_2 : Nat → List D
  | 0 => [(.int 0)]
  | 1 => [(.int 0)]
  | 2 => [(.int 0), (.int 2)]
  | 3 => [(.int 0)]
  | 4 => [(.int 0), (.int 2)]
  | 5 => [(.int 0)]
  | 6 => [(.int 0)]
  | 7 => [(.int 0), (.int 2)]
  | 8 => [(.int 0), (.int 2)]
  | 9 => [(.int 0)]
  | 10 => [(.int 0), (.int 2)]
  | 11 => [(.int 0)]
  | 12 => [(.int 0), (.int 2)]
  | 13 => [(.int 0), (.int 2)]
  | _ => []
def g12_4_3 : Nat → List D
  | 0 => [(.int 0)]
  | 1 => [(.int 0), (.int 1)]
  | 2 => [(.int 0)]
  | 3 => [(.int 0), (.int 1), (.int 3)]
  | 4 => [(.int 0), (.int 1), (.int 3)]
  | 5 => [(.int 0)]
  | 6 => [(.int 0), (.int 1)]
  | 7 => [(.int 0)]
  | 8 => [(.int 0)]
  | 9 => [(.int 0), (.int 1), (.int 3)]
  | 10 => [(.int 0), (.int 1), (.int 3)]
  | 11 => [(.int 0), (.int 1), (.int 3)]
  | 12 => [(.int 0), (.int 1), (.int 3)]
  | 13 => [(.int 0), (.int 1), (.int 3)]
  | _ => []
def g12_4_4 : Nat → List D
  | 0 => [(.int 0)]
  | 1 => [(.int 0), (.int 1)]
  | 2 => [(.int 0), (.int 2)]
  | 3 => [(.int 0), (.int 1), (.int 3)]
  | 4 => [(.int 0), (.int 1), (.int 2), (.int 3), (.int 4)]
  | 5 => [(.int 0)]
  | 6 => [(.int 0), (.int 1)]
  | 7 => [(.int 0), (.int 2)]
  | 8 => [(.int 0), (.int 2)]
  | 9 => [(.int 0), (.int 1), (.int 3)]
  | 10 => [(.int 0), (.int 1), (.int 2), (.int 3), (.int 4)]
  | 11 => [(.int 0), (.int 1), (.int 3)]
  | 12 => [(.int 0), (.int 1), (.int 2), (.int 3), (.int 4)]
  | 13 => [(.int 0), (.int 1), (.int 2), (.int 3), (.int 4)]
  | _ => []
def g12_4_5 : Nat → List D
  | 0 => [(.int 0)]
  | 1 => [(.int 0)]
  | 2 => [(.int 0)]
  | 3 => [(.int 0)]
  | 4 => [(.int 0)]
  | 5 => [(.int 0), (.int 5)]
  | 6 => [(.int 0), (.int 5)]
  | 7 => [(.int 0)]
  | 8 => [(.int 0), (.int 5)]
  | 9 => [(.int 0)]
  | 10 => [(.int 0)]
  | 11 => [(.int 0), (.int 5)]
  | 12 => [(.int 0)]
  | 13 => [(.int 0), (.int 5)]
  | _ => []
def g12_4_6 : Nat → List D
  | 0 => [(.int 0)]
  | 1 => [(.int 0), (.int 1)]
  | 2 => [(.int 0)]
  | 3 => [(.int 0), (.int 1)]
  | 4 => [(.int 0), (.int 1)]
  | 5 => [(.int 0), (.int 5)]
  | 6 => [(.int 0), (.int 1), (.int 5), (.int 6)]
  | 7 => [(.int 0)]
  | 8 => [(.int 0), (.int 5)]
  | 9 => [(.int 0), (.int 1)]
  | 10 => [(.int 0), (.int 1)]
  | 11 => [(.int 0), (.int 1), (.int 5), (.int 6)]
  | 12 => [(.int 0), (.int 1)]
  | 13 => [(.int 0), (.int 1), (.int 5), (.int 6)]
  | _ => []
def g12_4_7 : Nat → List D
  | 0 => [(.int 0)]
  | 1 => [(.int 0)]
  | 2 => [(.int 0), (.int 2)]
  | 3 => [(.int 0)]
  | 4 => [(.int 0), (.int 2)]
  | 5 => [(.int 0)]
  | 6 => [(.int 0)]
  | 7 => [(.int 0), (.int 2), (.int 7)]
  | 8 => [(.int 0), (.int 2), (.int 7)]
  | 9 => [(.int 0)]
  | 10 => [(.int 0), (.int 2)]
  | 11 => [(.int 0)]
  | 12 => [(.int 0), (.int 2), (.int 7)]
  | 13 => [(.int 0), (.int 2), (.int 7)]
  | _ => []
def g12_4_8 : Nat → List D
  | 0 => [(.int 0)]
  | 1 => [(.int 0)]
  | 2 => [(.int 0), (.int 2)]
  | 3 => [(.int 0)]
  | 4 => [(.int 0), (.int 2)]
  | 5 => [(.int 0), (.int 5)]
  | 6 => [(.int 0), (.int 5)]
  | 7 => [(.int 0), (.int 2), (.int 7)]
  | 8 => [(.int 0), (.int 2), (.int 5), (.int 7), (.int 8)]
  | 9 => [(.int 0)]
  | 10 => [(.int 0), (.int 2)]
  | 11 => [(.int 0), (.int 5)]
  | 12 => [(.int 0), (.int 2), (.int 7)]
  | 13 => [(.int 0), (.int 2), (.int 5), (.int 7), (.int 8)]
  | _ => []
def g12_4_9 : Nat → List D
  | 0 => [(.int 0)]
  | 1 => [(.int 0), (.int 1)]
  | 2 => [(.int 0)]
  | 3 => [(.int 0), (.int 1), (.int 3)]
  | 4 => [(.int 0), (.int 1), (.int 3)]
  | 5 => [(.int 0)]
  | 6 => [(.int 0), (.int 1)]
  | 7 => [(.int 0)]
  | 8 => [(.int 0)]
  | 9 => [(.int 0), (.int 1), (.int 3), (.int 9)]
  | 10 => [(.int 0), (.int 1), (.int 3), (.int 9)]
  | 11 => [(.int 0), (.int 1), (.int 3), (.int 9)]
  | 12 => [(.int 0), (.int 1), (.int 3), (.int 9)]
  | 13 => [(.int 0), (.int 1), (.int 3), (.int 9)]
  | _ => []
def g12_4_10 : Nat → List D
  | 0 => [(.int 0)]
  | 1 => [(.int 0), (.int 1)]
  | 2 => [(.int 0), (.int 2)]
  | 3 => [(.int 0), (.int 1), (.int 3)]
  | 4 => [(.int 0), (.int 1), (.int 2), (.int 3), (.int 4)]
  | 5 => [(.int 0)]
  | 6 => [(.int 0), (.int 1)]
  | 7 => [(.int 0), (.int 2)]
  | 8 => [(.int 0), (.int 2)]
  | 9 => [(.int 0), (.int 1), (.int 3), (.int 9)]
  | 10 => [(.int 0), (.int 1), (.int 2), (.int 3), (.int 4), (.int 9), (.int 10)]
  | 11 => [(.int 0), (.int 1), (.int 3), (.int 9)]
  | 12 => [(.int 0), (.int 1), (.int 2), (.int 3), (.int 4), (.int 9), (.int 10)]
  | 13 => [(.int 0), (.int 1), (.int 2), (.int 3), (.int 4), (.int 9), (.int 10)]
  | _ => []
def g12_4_11 : Nat → List D
  | 0 => [(.int 0)]
  | 1 => [(.int 0), (.int 1)]
  | 2 => [(.int 0)]
  | 3 => [(.int 0), (.int 1), (.int 3)]
  | 4 => [(.int 0), (.int 1), (.int 3)]
  | 5 => [(.int 0), (.int 5)]
  | 6 => [(.int 0), (.int 1), (.int 5), (.int 6)]
  | 7 => [(.int 0)]
  | 8 => [(.int 0), (.int 5)]
  | 9 => [(.int 0), (.int 1), (.int 3), (.int 9)]
  | 10 => [(.int 0), (.int 1), (.int 3), (.int 9)]
  | 11 => [(.int 0), (.int 1), (.int 3), (.int 5), (.int 6), (.int 9), (.int 11)]
  | 12 => [(.int 0), (.int 1), (.int 3), (.int 9)]
  | 13 => [(.int 0), (.int 1), (.int 3), (.int 5), (.int 6), (.int 9), (.int 11)]
  | _ => []
def g12_4_12 : Nat → List D
  | 0 => [(.int 0)]
  | 1 => [(.int 0), (.int 1)]
  | 2 => [(.int 0), (.int 2)]
  | 3 => [(.int 0), (.int 1), (.int 3)]
  | 4 => [(.int 0), (.int 1), (.int 2), (.int 3), (.int 4)]
  | 5 => [(.int 0)]
  | 6 => [(.int 0), (.int 1)]
  | 7 => [(.int 0), (.int 2), (.int 7)]
  | 8 => [(.int 0), (.int 2), (.int 7)]
  | 9 => [(.int 0), (.int 1), (.int 3), (.int 9)]
  | 10 => [(.int 0), (.int 1), (.int 2), (.int 3), (.int 4), (.int 9), (.int 10)]
  | 11 => [(.int 0), (.int 1), (.int 3), (.int 9)]
  | 12 => [(.int 0), (.int 1), (.int 2), (.int 3), (.int 4), (.int 7), (.int 9), (.int 10), (.int 12)]
  | 13 => [(.int 0), (.int 1), (.int 2), (.int 3), (.int 4), (.int 7), (.int 9), (.int 10), (.int 12)]
  | _ => []
def g12_4_13 : Nat → List D
  | 0 => [(.int 0)]
  | 1 => [(.int 0), (.int 1)]
  | 2 => [(.int 0), (.int 2)]
  | 3 => [(.int 0), (.int 1), (.int 3)]
  | 4 => [(.int 0), (.int 1), (.int 2), (.int 3), (.int 4)]
  | 5 => [(.int 0), (.int 5)]
  | 6 => [(.int 0), (.int 1), (.int 5), (.int 6)]
  | 7 => [(.int 0), (.int 2), (.int 7)]
  | 8 => [(.int 0), (.int 2), (.int 5), (.int 7), (.int 8)]
  | 9 => [(.int 0), (.int 1), (.int 3), (.int 9)]
  | 10 => [(.int 0), (.int 1), (.int 2), (.int 3), (.int 4), (.int 9), (.int 10)]
  | 11 => [(.int 0), (.int 1), (.int 3), (.int 5), (.int 6), (.int 9), (.int 11)]
  | 12 => [(.int 0), (.int 1), (.int 2), (.int 3), (.int 4), (.int 7), (.int 9), (.int 10), (.int 12)]
  | 13 => [(.int 0), (.int 1), (.int 2), (.int 3), (.int 4), (.int 5), (.int 6), (.int 7), (.int 8), (.int 9), (.int 10), (.int 11), (.int 12), (.int 13)]
  | _ => []
def g12_4 : Nat → Nat → List D
  | 0, y => g12_4_0 y
  | 1, y => g12_4_1 y
  | 2, y => g12_4_2 y
  | 3, y => g12_4_3 y
  | 4, y => g12_4_4 y
  | 5, y => g12_4_5 y
  | 6, y => g12_4_6 y
  | 7, y => g12_4_7 y
  | 8, y => g12_4_8 y
  | 9, y => g12_4_9 y
  | 10, y => g12_4_10 y
  | 11, y => g12_4_11 y
  | 12, y => g12_4_12 y
  | 13, y => g12_4_13 y
  | _, _ => []
def g12 : Nat → Nat → Nat → List D
  | 0, x, y => g12_0 x y
  | 1, x, y => g12_1 x y
  | 2, x, y => g12_2 x y
  | 3, x, y => g12_3 x y
  | 4, x, y => g12_4 x y
  | _, _, _ => []
def g13_0_0 : Nat → List D
  | 0 => [(.int 0)]
  | _ => []
def g13_0 : Nat → Nat → List D
  | 0, y => g13_0_0 y
  | _, _ => []
def g13_1_0 : Nat → List D
  | 0 => [(.int 0)]
  | _ => []
def g13_1 : Nat → Nat → List D
  | 0, y => g13_1_0 y
  | _, _ => []
def g13_2_0 : Nat → List D
  | 0 => [(.int 0)]
  | 1 => [(.int 0)]
  | _ => []
def g13_2_1 : Nat → List D
  | 0 => [(.int 0)]
  | 1 => [(.int 1)]
  | _ => []
def g13_2 : Nat → Nat → List D
  | 0, y => g13_2_0 y
  | 1, y => g13_2_1 y
  | _, _ => []
def g13_3_0 : Nat → List D
  | 0 => [(.int 0)]
  | 1 => [(.int 0)]
  | 2 => [(.int 0)]
  | 3 => [(.int 0)]
  | 4 => [(.int 0)]
  | _ => []
def g13_3_1 : Nat → List D
  | 0 => [(.int 0)]
  | 1 => [(.int 1)]
  | 2 => [(.int 0)]
  | 3 => [(.int 1)]
  | 4 => [(.int 1)]
  | _ => []
def g13_3_2 : Nat → List D
  | 0 => [(.int 0)]
  | 1 => [(.int 0)]
  | 2 => [(.int 2)]
  | 3 => [(.int 0)]
  | 4 => [(.int 2)]
  | _ => []
def g13_3_3 : Nat → List D
  | 0 => [(.int 0)]
  | 1 => [(.int 1)]
  | 2 => [(.int 0)]
  | 3 => [(.int 3)]
  | 4 => [(.int 3)]
  | _ => []
def g13_3_4 : Nat → List D
  | 0 => [(.int 0)]
  | 1 => [(.int 1)]
  | 2 => [(.int 2)]
  | 3 => [(.int 3)]
  | 4 => [(.int 4)]
  | _ => []
def g13_3 : Nat → Nat → List D
  | 0, y => g13_3_0 y
  | 1, y => g13_3_1 y
  | 2, y => g13_3_2 y
  | 3, y => g13_3_3 y
  | 4, y => g13_3_4 y
  | _, _ => []
def g13_4_0 : Nat → List D
  | 0 => [(.int 0)]
  | 1 => [(.int 0)]
  | 2 => [(.int 0)]
  | 3 => [(.int 0)]
  | 4 => [(.int 0)]
  | 5 => [(.int 0)]
  | 6 => [(.int 0)]
  | 7 => [(.int 0)]
  | 8 => [(.int 0)]
  | 9 => [(.int 0)]
  | 10 => [(.int 0)]
  | 11 => [(.int 0)]
  | 12 => [(.int 0)]
  | 13 => [(.int 0)]
  | _ => []
def g13_4_1 : Nat → List D
  | 0 => [(.int 0)]
  | 1 => [(.int 1)]
  | 2 => [(.int 0)]
  | 3 => [(.int 1)]
  | 4 => [(.int 1)]
  | 5 => [(.int 0)]
  | 6 => [(.int 1)]
  | 7 => [(.int 0)]
  | 8 => [(.int 0)]
  | 9 => [(.int 1)]
  | 10 => [(.int 1)]
  | 11 => [(.int 1)]
  | 12 => [(.int 1)]
  | 13 => [(.int 1)]
  | _ => []
def g13_4_2 : Nat → List D
  | 0 => [(.int 0)]
  | 1 => [(.int 0)]
  | 2 => [(.int 2)]
  | 3 => [(.int 0)]
  | 4 => [(.int 2)]
  | 5 => [(.int 0)]
  | 6 => [(.int 0)]
  | 7 => [(.int 2)]
  | 8 => [(.int 2)]
  | 9 => [(.int 0)]
  | 10 => [(.int 2)]
  | 11 => [(.int 0)]
  | 12 => [(.int 2)]
  | 13 => [(.int 2)]
  | _ => []
def g13_4_3 : Nat → List D
  | 0 => [(.int 0)]
  | 1 => [(.int 1)]
  | 2 => [(.int 0)]
  | 3 => [(.int 3)]
  | 4 => [(.int 3)]
  | 5 => [(.int 0)]
  | 6 => [(.int 1)]
  | 7 => [(.int 0)]
  | 8 => [(.int 0)]
  | 9 => [(.int 3)]
  | 10 => [(.int 3)]
  | 11 => [(.int 3)]
  | 12 => [(.int 3)]
  | 13 => [(.int 3)]
  | _ => []
def g13_4_4 : Nat → List D
  | 0 => [(.int 0)]
  | 1 => [(.int 1)]
  | 2 => [(.int 2)]
  | 3 => [(.int 3)]
  | 4 => [(.int 4)]
  | 5 => [(.int 0)]
  | 6 => [(.int 1)]
  | 7 => [(.int 2)]
  | 8 => [(.int 2)]
  | 9 => [(.int 3)]
  | 10 => [(.int 4)]
  | 11 => [(.int 3)]
  | 12 => [(.int 4)]
  | 13 => [(.int 4)]
  | _ => []
def g13_4_5 : Nat → List D
  | 0 => [(.int 0)]
  | 1 => [(.int 0)]
  | 2 => [(.int 0)]
  | 3 => [(.int 0)]
  | 4 => [(.int 0)]
  | 5 => [(.int 5)]
  | 6 => [(.int 5)]
  | 7 => [(.int 0)]
  | 8 => [(.int 5)]
  | 9 => [(.int 0)]
  | 10 => [(.int 0)]
  | 11 => [(.int 5)]
  | 12 => [(.int 0)]
  | 13 => [(.int 5)]
  | _ => []
def g13_4_6 : Nat → List D
  | 0 => [(.int 0)]
  | 1 => [(.int 1)]
  | 2 => [(.int 0)]
  | 3 => [(.int 1)]
  | 4 => [(.int 1)]
  | 5 => [(.int 5)]
  | 6 => [(.int 6)]
  | 7 => [(.int 0)]
  | 8 => [(.int 5)]
  | 9 => [(.int 1)]
  | 10 => [(.int 1)]
  | 11 => [(.int 6)]
  | 12 => [(.int 1)]
  | 13 => [(.int 6)]
  | _ => []
def g13_4_7 : Nat → List D
  | 0 => [(.int 0)]
  | 1 => [(.int 0)]
  | 2 => [(.int 2)]
  | 3 => [(.int 0)]
  | 4 => [(.int 2)]
  | 5 => [(.int 0)]
  | 6 => [(.int 0)]
  | 7 => [(.int 7)]
  | 8 => [(.int 7)]
  | 9 => [(.int 0)]
  | 10 => [(.int 2)]
  | 11 => [(.int 0)]
  | 12 => [(.int 7)]
  | 13 => [(.int 7)]
  | _ => []
def g13_4_8 : Nat → List D
  | 0 => [(.int 0)]
  | 1 => [(.int 0)]
  | 2 => [(.int 2)]
  | 3 => [(.int 0)]
  | 4 => [(.int 2)]
  | 5 => [(.int 5)]
  | 6 => [(.int 5)]
  | 7 => [(.int 7)]
  | 8 => [(.int 8)]
  | 9 => [(.int 0)]
  | 10 => [(.int 2)]
  | 11 => [(.int 5)]
  | 12 => [(.int 7)]
  | 13 => [(.int 8)]
  | _ => []
def g13_4_9 : Nat → List D
  | 0 => [(.int 0)]
  | 1 => [(.int 1)]
  | 2 => [(.int 0)]
  | 3 => [(.int 3)]
  | 4 => [(.int 3)]
  | 5 => [(.int 0)]
  | 6 => [(.int 1)]
  | 7 => [(.int 0)]
  | 8 => [(.int 0)]
  | 9 => [(.int 9)]
  | 10 => [(.int 9)]
  | 11 => [(.int 9)]
  | 12 => [(.int 9)]
  | 13 => [(.int 9)]
  | _ => []
def g13_4_10 : Nat → List D
  | 0 => [(.int 0)]
  | 1 => [(.int 1)]
  | 2 => [(.int 2)]
  | 3 => [(.int 3)]
  | 4 => [(.int 4)]
  | 5 => [(.int 0)]
  | 6 => [(.int 1)]
  | 7 => [(.int 2)]
  | 8 => [(.int 2)]
  | 9 => [(.int 9)]
  | 10 => [(.int 10)]
  | 11 => [(.int 9)]
  | 12 => [(.int 10)]
  | 13 => [(.int 10)]
  | _ => []
def g13_4_11 : Nat → List D
  | 0 => [(.int 0)]
  | 1 => [(.int 1)]
  | 2 => [(.int 0)]
  | 3 => [(.int 3)]
  | 4 => [(.int 3)]
  | 5 => [(.int 5)]
  | 6 => [(.int 6)]
  | 7 => [(.int 0)]
  | 8 => [(.int 5)]
  | 9 => [(.int 9)]
  | 10 => [(.int 9)]
  | 11 => [(.int 11)]
  | 12 => [(.int 9)]
  | 13 => [(.int 11)]
  | _ => []
def g13_4_12 : Nat → List D
  | 0 => [(.int 0)]
  | 1 => [(.int 1)]
  | 2 => [(.int 2)]
  | 3 => [(.int 3)]
  | 4 => [(.int 4)]
  | 5 => [(.int 0)]
  | 6 => [(.int 1)]
  | 7 => [(.int 7)]
  | 8 => [(.int 7)]
  | 9 => [(.int 9)]
  | 10 => [(.int 10)]
  | 11 => [(.int 9)]
  | 12 => [(.int 12)]
  | 13 => [(.int 12)]
  | _ => []
def g13_4_13 : Nat → List D
  | 0 => [(.int 0)]
  | 1 => [(.int 1)]
  | 2 => [(.int 2)]
  | 3 => [(.int 3)]
  | 4 => [(.int 4)]
  | 5 => [(.int 5)]
  | 6 => [(.int 6)]
  | 7 => [(.int 7)]
  | 8 => [(.int 8)]
  | 9 => [(.int 9)]
  | 10 => [(.int 10)]
  | 11 => [(.int 11)]
  | 12 => [(.int 12)]
  | 13 => [(.int 13)]
  | _ => []
def g13_4 : Nat → Nat → List D
  | 0, y => g13_4_0 y
  | 1, y => g13_4_1 y
  | 2, y => g13_4_2 y
  | 3, y => g13_4_3 y
  | 4, y => g13_4_4 y
  | 5, y => g13_4_5 y
  | 6, y => g13_4_6 y
  | 7, y => g13_4_7 y
  | 8, y => g13_4_8 y
  | 9, y => g13_4_9 y
  | 10, y => g13_4_10 y
  | 11, y => g13_4_11 y
  | 12, y => g13_4_12 y
  | 13, y => g13_4_13 y
  | _, _ => []
def g13 : Nat → Nat → Nat → List D
  | 0, x, y => g13_0 x y
  | 1, x, y => g13_1 x y
  | 2, x, y => g13_2 x y
  | 3, x, y => g13_3 x y
  | 4, x, y => g13_4 x y
  | _, _, _ => []
def g14_0_0 : Nat → List D
  | 0 => [(.int 0)]
  | _ => []
def g14_0 : Nat → Nat → List D
  | 0, y => g14_0_0 y
  | _, _ => []
def g14_1_0 : Nat → List D
  | 0 => [(.int 0)]
  | _ => []
def g14_1 : Nat → Nat → List D
  | 0, y => g14_1_0 y
  | _, _ => []
def g14_2_0 : Nat → List D
  | 0 => [(.int 0), (.int 1)]
  | 1 => [(.int 1)]
  | _ => []
def g14_2_1 : Nat → List D
  | 0 => [(.int 1)]
  | 1 => [(.int 1)]
  | _ => []
def g14_2 : Nat → Nat → List D
  | 0, y => g14_2_0 y
  | 1, y => g14_2_1 y
  | _, _ => []
def g14_3_0 : Nat → List D
  | 0 => [(.int 0), (.int 1), (.int 2), (.int 3), (.int 4)]
  | 1 => [(.int 1), (.int 3), (.int 4)]
  | 2 => [(.int 2), (.int 4)]
  | 3 => [(.int 3), (.int 4)]
  | 4 => [(.int 4)]
  | _ => []
def g14_3_1 : Nat → List D
  | 0 => [(.int 1), (.int 3), (.int 4)]
  | 1 => [(.int 1), (.int 3), (.int 4)]
  | 2 => [(.int 4)]
  | 3 => [(.int 3), (.int 4)]
  | 4 => [(.int 4)]
  | _ => []
def g14_3_2 : Nat → List D
  | 0 => [(.int 2), (.int 4)]
  | 1 => [(.int 4)]
  | 2 => [(.int 2), (.int 4)]
  | 3 => [(.int 4)]
  | 4 => [(.int 4)]
  | _ => []
def g14_3_3 : Nat → List D
  | 0 => [(.int 3), (.int 4)]
  | 1 => [(.int 3), (.int 4)]
  | 2 => [(.int 4)]
  | 3 => [(.int 3), (.int 4)]
  | 4 => [(.int 4)]
  | _ => []
def g14_3_4 : Nat → List D
  | 0 => [(.int 4)]
  | 1 => [(.int 4)]
  | 2 => [(.int 4)]
  | 3 => [(.int 4)]
  | 4 => [(.int 4)]
  | _ => []
def g14_3 : Nat → Nat → List D
  | 0, y => g14_3_0 y
  | 1, y => g14_3_1 y
  | 2, y => g14_3_2 y
  | 3, y => g14_3_3 y
  | 4, y => g14_3_4 y
  | _, _ => []
def g14_4_0 : Nat → List D
  | 0 => [(.int 0), (.int 1), (.int 2), (.int 3), (.int 4), (.int 5), (.int 6), (.int 7), (.int 8), (.int 9), (.int 10), (.int 11), (.int 12), (.int 13)]
  | 1 => [(.int 1), (.int 3), (.int 4), (.int 6), (.int 9), (.int 10), (.int 11), (.int 12), (.int 13)]
  | 2 => [(.int 2), (.int 4), (.int 7), (.int 8), (.int 10), (.int 12), (.int 13)]
  | 3 => [(.int 3), (.int 4), (.int 9), (.int 10), (.int 11), (.int 12), (.int 13)]
  | 4 => [(.int 4), (.int 10), (.int 12), (.int 13)]
  | 5 => [(.int 5), (.int 6), (.int 8), (.int 11), (.int 13)]
  | 6 => [(.int 6), (.int 11), (.int 13)]
  | 7 => [(.int 7), (.int 8), (.int 12), (.int 13)]
  | 8 => [(.int 8), (.int 13)]
  | 9 => [(.int 9), (.int 10), (.int 11), (.int 12), (.int 13)]
  | 10 => [(.int 10), (.int 12), (.int 13)]
  | 11 => [(.int 11), (.int 13)]
  | 12 => [(.int 12), (.int 13)]
  | 13 => [(.int 13)]
  | _ => []
def g14_4_1 : Nat → List D
  | 0 => [(.int 1), (.int 3), (.int 4), (.int 6), (.int 9), (.int 10), (.int 11), (.int 12), (.int 13)]
  | 1 => [(.int 1), (.int 3), (.int 4), (.int 6), (.int 9), (.int 10), (.int 11), (.int 12), (.int 13)]
  | 2 => [(.int 4), (.int 10), (.int 12), (.int 13)]
  | 3 => [(.int 3), (.int 4), (.int 9), (.int 10), (.int 11), (.int 12), (.int 13)]
  | 4 => [(.int 4), (.int 10), (.int 12), (.int 13)]
  | 5 => [(.int 6), (.int 11), (.int 13)]
  | 6 => [(.int 6), (.int 11), (.int 13)]
  | 7 => [(.int 12), (.int 13)]
  | 8 => [(.int 13)]
  | 9 => [(.int 9), (.int 10), (.int 11), (.int 12), (.int 13)]
  | 10 => [(.int 10), (.int 12), (.int 13)]
  | 11 => [(.int 11), (.int 13)]
  | 12 => [(.int 12), (.int 13)]
  | 13 => [(.int 13)]
  | _ => []
def g14_4_2 : Nat → List D
  | 0 => [(.int 2), (.int 4), (.int 7), (.int 8), (.int 10), (.int 12), (.int 13)]
  | 1 => [(.int 4), (.int 10), (.int 12), (.int 13)]
  | 2 => [(.int 2), (.int 4), (.int 7), (.int 8), (.int 10), (.int 12), (.int 13)]
  | 3 => [(.int 4), (.int 10), (.int 12), (.int 13)]
  | 4 => [(.int 4), (.int 10), (.int 12), (.int 13)]
  | 5 => [(.int 8), (.int 13)]
  | 6 => [(.int 13)]
  | 7 => [(.int 7), (.int 8), (.int 12), (.int 13)]
  | 8 => [(.int 8), (.int 13)]
  | 9 => [(.int 10), (.int 12), (.int 13)]
  | 10 => [(.int 10), (.int 12), (.int 13)]
  | 11 => [(.int 13)]
  | 12 => [(.int 12), (.int 13)]
  | 13 => [(.int 13)]
  | _ => []
def g14_4_3 : Nat → List D
  | 0 => [(.int 3), (.int 4), (.int 9), (.int 10), (.int 11), (.int 12), (.int 13)]
  | 1 => [(.int 3), (.int 4), (.int 9), (.int 10), (.int 11), (.int 12), (.int 13)]
  | 2 => [(.int 4), (.int 10), (.int 12), (.int 13)]
  | 3 => [(.int 3), (.int 4), (.int 9), (.int 10), (.int 11), (.int 12), (.int 13)]
  | 4 => [(.int 4), (.int 10), (.int 12), (.int 13)]
  | 5 => [(.int 11), (.int 13)]
  | 6 => [(.int 11), (.int 13)]
  | 7 => [(.int 12), (.int 13)]
  | 8 => [(.int 13)]
  | 9 => [(.int 9), (.int 10), (.int 11), (.int 12), (.int 13)]
  | 10 => [(.int 10), (.int 12), (.int 13)]
  | 11 => [(.int 11), (.int 13)]
  | 12 => [(.int 12), (.int 13)]
  | 13 => [(.int 13)]
  | _ => []
def g14_4_4 : Nat → List D
  | 0 => [(.int 4), (.int 10), (.int 12), (.int 13)]
  | 1 => [(.int 4), (.int 10), (.int 12), (.int 13)]
  | 2 => [(.int 4), (.int 10), (.int 12), (.int 13)]
  | 3 => [(.int 4), (.int 10), (.int 12), (.int 13)]
  | 4 => [(.int 4), (.int 10), (.int 12), (.int 13)]
  | 5 => [(.int 13)]
  | 6 => [(.int 13)]
  | 7 => [(.int 12), (.int 13)]
  | 8 => [(.int 13)]
  | 9 => [(.int 10), (.int 12), (.int 13)]
  | 10 => [(.int 10), (.int 12), (.int 13)]
  | 11 => [(.int 13)]
  | 12 => [(.int 12), (.int 13)]
  | 13 => [(.int 13)]
  | _ => []
def g14_4_5 : Nat → List D
  | 0 => [(.int 5), (.int 6), (.int 8), (.int 11), (.int 13)]
  | 1 => [(.int 6), (.int 11), (.int 13)]
  | 2 => [(.int 8), (.int 13)]
  | 3 => [(.int 11), (.int 13)]
  | 4 => [(.int 13)]
  | 5 => [(.int 5), (.int 6), (.int 8), (.int 11), (.int 13)]
  | 6 => [(.int 6), (.int 11), (.int 13)]
  | 7 => [(.int 8), (.int 13)]
  | 8 => [(.int 8), (.int 13)]
  | 9 => [(.int 11), (.int 13)]
  | 10 => [(.int 13)]
  | 11 => [(.int 11), (.int 13)]
  | 12 => [(.int 13)]
  | 13 => [(.int 13)]
  | _ => []
def g14_4_6 : Nat → List D
  | 0 => [(.int 6), (.int 11), (.int 13)]
  | 1 => [(.int 6), (.int 11), (.int 13)]
  | 2 => [(.int 13)]
  | 3 => [(.int 11), (.int 13)]
  | 4 => [(.int 13)]
  | 5 => [(.int 6), (.int 11), (.int 13)]
  | 6 => [(.int 6), (.int 11), (.int 13)]
  | 7 => [(.int 13)]
  | 8 => [(.int 13)]
  | 9 => [(.int 11), (.int 13)]
  | 10 => [(.int 13)]
  | 11 => [(.int 11), (.int 13)]
  | 12 => [(.int 13)]
  | 13 => [(.int 13)]
  | _ => []
def g14_4_7 : Nat → List D
  | 0 => [(.int 7), (.int 8), (.int 12), (.int 13)]
  | 1 => [(.int 12), (.int 13)]
  | 2 => [(.int 7), (.int 8), (.int 12), (.int 13)]
  | 3 => [(.int 12), (.int 13)]
  | 4 => [(.int 12), (.int 13)]
  | 5 => [(.int 8), (.int 13)]
  | 6 => [(.int 13)]
  | 7 => [(.int 7), (.int 8), (.int 12), (.int 13)]
  | 8 => [(.int 8), (.int 13)]
  | 9 => [(.int 12), (.int 13)]
  | 10 => [(.int 12), (.int 13)]
  | 11 => [(.int 13)]
  | 12 => [(.int 12), (.int 13)]
  | 13 => [(.int 13)]
  | _ => []
def g14_4_8 : Nat → List D
  | 0 => [(.int 8), (.int 13)]
  | 1 => [(.int 13)]
  | 2 => [(.int 8), (.int 13)]
  | 3 => [(.int 13)]
  | 4 => [(.int 13)]
  | 5 => [(.int 8), (.int 13)]
  | 6 => [(.int 13)]
  | 7 => [(.int 8), (.int 13)]
  | 8 => [(.int 8), (.int 13)]
  | 9 => [(.int 13)]
  | 10 => [(.int 13)]
  | 11 => [(.int 13)]
  | 12 => [(.int 13)]
  | 13 => [(.int 13)]
  | _ => []
def g14_4_9 : Nat → List D
  | 0 => [(.int 9), (.int 10), (.int 11), (.int 12), (.int 13)]
  | 1 => [(.int 9), (.int 10), (.int 11), (.int 12), (.int 13)]
  | 2 => [(.int 10), (.int 12), (.int 13)]
  | 3 => [(.int 9), (.int 10), (.int 11), (.int 12), (.int 13)]
  | 4 => [(.int 10), (.int 12), (.int 13)]
  | 5 => [(.int 11), (.int 13)]
  | 6 => [(.int 11), (.int 13)]
  | 7 => [(.int 12), (.int 13)]
  | 8 => [(.int 13)]
  | 9 => [(.int 9), (.int 10), (.int 11), (.int 12), (.int 13)]
  | 10 => [(.int 10), (.int 12), (.int 13)]
  | 11 => [(.int 11), (.int 13)]
  | 12 => [(.int 12), (.int 13)]
  | 13 => [(.int 13)]
  | _ => []
def g14_4_10 : Nat → List D
  | 0 => [(.int 10), (.int 12), (.int 13)]
  | 1 => [(.int 10), (.int 12), (.int 13)]
  | 2 => [(.int 10), (.int 12), (.int 13)]
  | 3 => [(.int 10), (.int 12), (.int 13)]
  | 4 => [(.int 10), (.int 12), (.int 13)]
  | 5 => [(.int 13)]
  | 6 => [(.int 13)]
  | 7 => [(.int 12), (.int 13)]
  | 8 => [(.int 13)]
  | 9 => [(.int 10), (.int 12), (.int 13)]
  | 10 => [(.int 10), (.int 12), (.int 13)]
  | 11 => [(.int 13)]
  | 12 => [(.int 12), (.int 13)]
  | 13 => [(.int 13)]
  | _ => []
def g14_4_11 : Nat → List D
  | 0 => [(.int 11), (.int 13)]
  | 1 => [(.int 11), (.int 13)]
  | 2 => [(.int 13)]
  | 3 => [(.int 11), (.int 13)]
  | 4 => [(.int 13)]
  | 5 => [(.int 11), (.int 13)]
  | 6 => [(.int 11), (.int 13)]
  | 7 => [(.int 13)]
  | 8 => [(.int 13)]
  | 9 => [(.int 11), (.int 13)]
  | 10 => [(.int 13)]
  | 11 => [(.int 11), (.int 13)]
  | 12 => [(.int 13)]
  | 13 => [(.int 13)]
  | _ => []
def g14_4_12 : Nat → List D
  | 0 => [(.int 12), (.int 13)]
  | 1 => [(.int 12), (.int 13)]
  | 2 => [(.int 12), (.int 13)]
  | 3 => [(.int 12), (.int 13)]
  | 4 => [(.int 12), (.int 13)]
  | 5 => [(.int 13)]
  | 6 => [(.int 13)]
  | 7 => [(.int 12), (.int 13)]
  | 8 => [(.int 13)]
  | 9 => [(.int 12), (.int 13)]
  | 10 => [(.int 12), (.int 13)]
  | 11 => [(.int 13)]
  | 12 => [(.int 12), (.int 13)]
  | 13 => [(.int 13)]
  | _ => []
def g14_4_13 : Nat → List D
  | 0 => [(.int 13)]
  | 1 => [(.int 13)]
  | 2 => [(.int 13)]
  | 3 => [(.int 13)]
  | 4 => [(.int 13)]
  | 5 => [(.int 13)]
  | 6 => [(.int 13)]
  | 7 => [(.int 13)]
  | 8 => [(.int 13)]
  | 9 => [(.int 13)]
  | 10 => [(.int 13)]
  | 11 => [(.int 13)]
  | 12 => [(.int 13)]
  | 13 => [(.int 13)]
  | _ => []
def g14_4 : Nat → Nat → List D
  | 0, y => g14_4_0 y
  | 1, y => g14_4_1 y
  | 2, y => g14_4_2 y
  | 3, y => g14_4_3 y
  | 4, y => g14_4_4 y
  | 5, y => g14_4_5 y
  | 6, y => g14_4_6 y
  | 7, y => g14_4_7 y
  | 8, y => g14_4_8 y
  | 9, y => g14_4_9 y
  | 10, y => g14_4_10 y
  | 11, y => g14_4_11 y
  | 12, y => g14_4_12 y
  | 13, y => g14_4_13 y
  | _, _ => []
def g14 : Nat → Nat → Nat → List D
  | 0, x, y => g14_0 x y
  | 1, x, y => g14_1 x y
  | 2, x, y => g14_2 x y
  | 3, x, y => g14_3 x y
  | 4, x, y => g14_4 x y
  | _, _, _ => []
def g15_0_0 : Nat → List D
  | 0 => [(.int 0)]
  | _ => []
def g15_0 : Nat → Nat → List D
  | 0, y => g15_0_0 y
  | _, _ => []
def g15_1_0 : Nat → List D
  | 0 => [(.int 0)]
  | _ => []
def g15_1 : Nat → Nat → List D
  | 0, y => g15_1_0 y
  | _, _ => []
def g15_2_0 : Nat → List D
  | 0 => [(.int 0)]
  | 1 => [(.int 1)]
  | _ => []
def g15_2_1 : Nat → List D
  | 0 => [(.int 1)]
  | 1 => [(.int 1)]
  | _ => []
def g15_2 : Nat → Nat → List D
  | 0, y => g15_2_0 y
  | 1, y => g15_2_1 y
  | _, _ => []
def g15_3_0 : Nat → List D
  | 0 => [(.int 0)]
  | 1 => [(.int 1)]
  | 2 => [(.int 2)]
  | 3 => [(.int 3)]
  | 4 => [(.int 4)]
  | _ => []
def g15_3_1 : Nat → List D
  | 0 => [(.int 1)]
  | 1 => [(.int 1)]
  | 2 => [(.int 4)]
  | 3 => [(.int 3)]
  | 4 => [(.int 4)]
  | _ => []
def g15_3_2 : Nat → List D
  | 0 => [(.int 2)]
  | 1 => [(.int 4)]
  | 2 => [(.int 2)]
  | 3 => [(.int 4)]
  | 4 => [(.int 4)]
  | _ => []
def g15_3_3 : Nat → List D
  | 0 => [(.int 3)]
  | 1 => [(.int 3)]
  | 2 => [(.int 4)]
  | 3 => [(.int 3)]
  | 4 => [(.int 4)]
  | _ => []
def g15_3_4 : Nat → List D
  | 0 => [(.int 4)]
  | 1 => [(.int 4)]
  | 2 => [(.int 4)]
  | 3 => [(.int 4)]
  | 4 => [(.int 4)]
  | _ => []
def g15_3 : Nat → Nat → List D
  | 0, y => g15_3_0 y
  | 1, y => g15_3_1 y
  | 2, y => g15_3_2 y
  | 3, y => g15_3_3 y
  | 4, y => g15_3_4 y
  | _, _ => []
def g15_4_0 : Nat → List D
  | 0 => [(.int 0)]
  | 1 => [(.int 1)]
  | 2 => [(.int 2)]
  | 3 => [(.int 3)]
  | 4 => [(.int 4)]
  | 5 => [(.int 5)]
  | 6 => [(.int 6)]
  | 7 => [(.int 7)]
  | 8 => [(.int 8)]
  | 9 => [(.int 9)]
  | 10 => [(.int 10)]
  | 11 => [(.int 11)]
  | 12 => [(.int 12)]
  | 13 => [(.int 13)]
  | _ => []
def g15_4_1 : Nat → List D
  | 0 => [(.int 1)]
  | 1 => [(.int 1)]
  | 2 => [(.int 4)]
  | 3 => [(.int 3)]
  | 4 => [(.int 4)]
  | 5 => [(.int 6)]
  | 6 => [(.int 6)]
  | 7 => [(.int 12)]
  | 8 => [(.int 13)]
  | 9 => [(.int 9)]
  | 10 => [(.int 10)]
  | 11 => [(.int 11)]
  | 12 => [(.int 12)]
  | 13 => [(.int 13)]
  | _ => []
def g15_4_2 : Nat → List D
  | 0 => [(.int 2)]
  | 1 => [(.int 4)]
  | 2 => [(.int 2)]
  | 3 => [(.int 4)]
  | 4 => [(.int 4)]
  | 5 => [(.int 8)]
  | 6 => [(.int 13)]
  | 7 => [(.int 7)]
  | 8 => [(.int 8)]
  | 9 => [(.int 10)]
  | 10 => [(.int 10)]
  | 11 => [(.int 13)]
  | 12 => [(.int 12)]
  | 13 => [(.int 13)]
  | _ => []
def g15_4_3 : Nat → List D
  | 0 => [(.int 3)]
  | 1 => [(.int 3)]
  | 2 => [(.int 4)]
  | 3 => [(.int 3)]
  | 4 => [(.int 4)]
  | 5 => [(.int 11)]
  | 6 => [(.int 11)]
  | 7 => [(.int 12)]
  | 8 => [(.int 13)]
  | 9 => [(.int 9)]
  | 10 => [(.int 10)]
  | 11 => [(.int 11)]
  | 12 => [(.int 12)]
  | 13 => [(.int 13)]
  | _ => []
def g15_4_4 : Nat → List D
  | 0 => [(.int 4)]
  | 1 => [(.int 4)]
  | 2 => [(.int 4)]
  | 3 => [(.int 4)]
  | 4 => [(.int 4)]
  | 5 => [(.int 13)]
  | 6 => [(.int 13)]
  | 7 => [(.int 12)]
  | 8 => [(.int 13)]
  | 9 => [(.int 10)]
  | 10 => [(.int 10)]
  | 11 => [(.int 13)]
  | 12 => [(.int 12)]
  | 13 => [(.int 13)]
  | _ => []
def g15_4_5 : Nat → List D
  | 0 => [(.int 5)]
  | 1 => [(.int 6)]
  | 2 => [(.int 8)]
  | 3 => [(.int 11)]
  | 4 => [(.int 13)]
  | 5 => [(.int 5)]
  | 6 => [(.int 6)]
  | 7 => [(.int 8)]
  | 8 => [(.int 8)]
  | 9 => [(.int 11)]
  | 10 => [(.int 13)]
  | 11 => [(.int 11)]
  | 12 => [(.int 13)]
  | 13 => [(.int 13)]
  | _ => []
def g15_4_6 : Nat → List D
  | 0 => [(.int 6)]
  | 1 => [(.int 6)]
  | 2 => [(.int 13)]
  | 3 => [(.int 11)]
  | 4 => [(.int 13)]
  | 5 => [(.int 6)]
  | 6 => [(.int 6)]
  | 7 => [(.int 13)]
  | 8 => [(.int 13)]
  | 9 => [(.int 11)]
  | 10 => [(.int 13)]
  | 11 => [(.int 11)]
  | 12 => [(.int 13)]
  | 13 => [(.int 13)]
  | _ => []
def g15_4_7 : Nat → List D
  | 0 => [(.int 7)]
  | 1 => [(.int 12)]
  | 2 => [(.int 7)]
  | 3 => [(.int 12)]
  | 4 => [(.int 12)]
  | 5 => [(.int 8)]
  | 6 => [(.int 13)]
  | 7 => [(.int 7)]
  | 8 => [(.int 8)]
  | 9 => [(.int 12)]
  | 10 => [(.int 12)]
  | 11 => [(.int 13)]
  | 12 => [(.int 12)]
  | 13 => [(.int 13)]
  | _ => []
def g15_4_8 : Nat → List D
  | 0 => [(.int 8)]
  | 1 => [(.int 13)]
  | 2 => [(.int 8)]
  | 3 => [(.int 13)]
  | 4 => [(.int 13)]
  | 5 => [(.int 8)]
  | 6 => [(.int 13)]
  | 7 => [(.int 8)]
  | 8 => [(.int 8)]
  | 9 => [(.int 13)]
  | 10 => [(.int 13)]
  | 11 => [(.int 13)]
  | 12 => [(.int 13)]
  | 13 => [(.int 13)]
  | _ => []
def g15_4_9 : Nat → List D
  | 0 => [(.int 9)]
  | 1 => [(.int 9)]
  | 2 => [(.int 10)]
  | 3 => [(.int 9)]
  | 4 => [(.int 10)]
  | 5 => [(.int 11)]
  | 6 => [(.int 11)]
  | 7 => [(.int 12)]
  | 8 => [(.int 13)]
  | 9 => [(.int 9)]
  | 10 => [(.int 10)]
  | 11 => [(.int 11)]
  | 12 => [(.int 12)]
  | 13 => [(.int 13)]
  | _ => []
def g15_4_10 : Nat → List D
  | 0 => [(.int 10)]
  | 1 => [(.int 10)]
  | 2 => [(.int 10)]
  | 3 => [(.int 10)]
  | 4 => [(.int 10)]
  | 5 => [(.int 13)]
  | 6 => [(.int 13)]
  | 7 => [(.int 12)]
  | 8 => [(.int 13)]
  | 9 => [(.int 10)]
  | 10 => [(.int 10)]
  | 11 => [(.int 13)]
  | 12 => [(.int 12)]
  | 13 => [(.int 13)]
  | _ => []
def g15_4_11 : Nat → List D
  | 0 => [(.int 11)]
  | 1 => [(.int 11)]
  | 2 => [(.int 13)]
  | 3 => [(.int 11)]
  | 4 => [(.int 13)]
  | 5 => [(.int 11)]
  | 6 => [(.int 11)]
  | 7 => [(.int 13)]
  | 8 => [(.int 13)]
  | 9 => [(.int 11)]
  | 10 => [(.int 13)]
  | 11 => [(.int 11)]
  | 12 => [(.int 13)]
  | 13 => [(.int 13)]
  | _ => []
def g15_4_12 : Nat → List D
  | 0 => [(.int 12)]
  | 1 => [(.int 12)]
  | 2 => [(.int 12)]
  | 3 => [(.int 12)]
  | 4 => [(.int 12)]
  | 5 => [(.int 13)]
  | 6 => [(.int 13)]
  | 7 => [(.int 12)]
  | 8 => [(.int 13)]
  | 9 => [(.int 12)]
  | 10 => [(.int 12)]
  | 11 => [(.int 13)]
  | 12 => [(.int 12)]
  | 13 => [(.int 13)]
  | _ => []
def g15_4_13 : Nat → List D
  | 0 => [(.int 13)]
  | 1 => [(.int 13)]
  | 2 => [(.int 13)]
  | 3 => [(.int 13)]
  | 4 => [(.int 13)]
  | 5 => [(.int 13)]
  | 6 => [(.int 13)]
  | 7 => [(.int 13)]
  | 8 => [(.int 13)]
  | 9 => [(.int 13)]
  | 10 => [(.int 13)]
  | 11 => [(.int 13)]
  | 12 => [(.int 13)]
  | 13 => [(.int 13)]
  | _ => []
def g15_4 : Nat → Nat → List D
  | 0, y => g15_4_0 y
  | 1, y => g15_4_1 y
  | 2, y => g15_4_2 y
  | 3, y => g15_4_3 y
  | 4, y => g15_4_4 y
  | 5, y => g15_4_5 y
  | 6, y => g15_4_6 y
  | 7, y => g15_4_7 y
  | 8, y => g15_4_8 y
  | 9, y => g15_4_9 y
  | 10, y => g15_4_10 y
  | 11, y => g15_4_11 y
  | 12, y => g15_4_12 y
  | 13, y => g15_4_13 y
  | _, _ => []
def g15 : Nat → Nat → Nat → List D
  | 0, x, y => g15_0 x y
  | 1, x, y => g15_1 x y
  | 2, x, y => g15_2 x y
  | 3, x, y => g15_3 x y
  | 4, x, y => g15_4 x y
  | _, _, _ => []
def E (S : D) (B : List D) (v : Nat) (j9 j10 j11 j12 j13 j14 j15 j16 : Option SV) : LH.Env := [some (.val S), some (.own B), some (.val (.int v)), some (.val (.list (w3 v))), some (.own (w4 v)), some (.val (w5 v)), some (.val (w6 v)), some (.val (w7 v)), some (.own (w8 v)), j9, j10, j11, j12, j13, j14, j15, j16, none, none, none, none]
def PA (v x : Nat) : Prop := ∀ (S : D) (B : List D) (j9 j11 j12 j13 j14 j15 j16 : Option SV), c1 (E S B v j9 (some (.val (.int (x : Nat)))) j11 j12 j13 j14 j15 j16) = some (false, (E S B v j9 (some (.val (.int (x : Nat)))) j11 j12 j13 j14 j15 j16)) ∧ c2 (E S B v j9 (some (.val (.int (x : Nat)))) j11 j12 j13 j14 j15 j16) = some (false, (E S B v j9 (some (.val (.int (x : Nat)))) j11 j12 j13 j14 j15 j16)) ∧ c3 (E S B v j9 (some (.val (.int (x : Nat)))) j11 j12 j13 j14 j15 j16) = some (false, (E S B v j9 (some (.val (.int (x : Nat)))) j11 j12 j13 j14 j15 j16))
def PB (v x y : Nat) : Prop := ∀ (S : D) (B : List D) (j9 j12 j13 j14 j15 j16 : Option SV), e12 (E S B v j9 (some (.val (.int (x : Nat)))) (some (.val (.int (y : Nat)))) j12 j13 j14 j15 j16) = some (.tmp (g12 v x y), (E S B v j9 (some (.val (.int (x : Nat)))) (some (.val (.int (y : Nat)))) j12 j13 j14 j15 j16)) ∧ e13 (E S B v j9 (some (.val (.int (x : Nat)))) (some (.val (.int (y : Nat)))) (some (.own (g12 v x y))) j13 j14 j15 j16) = some (.tmp (g13 v x y), (E S B v j9 (some (.val (.int (x : Nat)))) (some (.val (.int (y : Nat)))) (some (.val (.list (g12 v x y)))) j13 j14 j15 j16)) ∧ e14 (E S B v j9 (some (.val (.int (x : Nat)))) (some (.val (.int (y : Nat)))) (some (.val (.list (g12 v x y)))) (some (.own (g13 v x y))) j14 j15 j16) = some (.tmp (g14 v x y), (E S B v j9 (some (.val (.int (x : Nat)))) (some (.val (.int (y : Nat)))) (some (.val (.list (g12 v x y)))) (some (.own (g13 v x y))) j14 j15 j16)) ∧ e15 (E S B v j9 (some (.val (.int (x : Nat)))) (some (.val (.int (y : Nat)))) (some (.val (.list (g12 v x y)))) (some (.own (g13 v x y))) (some (.own (g14 v x y))) j15 j16) = some (.tmp (g15 v x y), (E S B v j9 (some (.val (.int (x : Nat)))) (some (.val (.int (y : Nat)))) (some (.val (.list (g12 v x y)))) (some (.own (g13 v x y))) (some (.val (.list (g14 v x y)))) j15 j16)) ∧ c4 (E S B v j9 (some (.val (.int (x : Nat)))) (some (.val (.int (y : Nat)))) (some (.val (.list (g12 v x y)))) (some (.own (g13 v x y))) (some (.val (.list (g14 v x y)))) (some (.own (g15 v x y))) j16) = some (false, (E S B v j9 (some (.val (.int (x : Nat)))) (some (.val (.int (y : Nat)))) (some (.val (.list (g12 v x y)))) (some (.own (g13 v x y))) (some (.val (.list (g14 v x y)))) (some (.own (g15 v x y))) j16)) ∧ c5 (E S B v j9 (some (.val (.int (x : Nat)))) (some (.val (.int (y : Nat)))) (some (.val (.list (g12 v x y)))) (some (.own (g13 v x y))) (some (.val (.list (g14 v x y)))) (some (.own (g15 v x y))) j16) = some (false, (E S B v j9 (some (.val (.int (x : Nat)))) (some (.val (.int (y : Nat)))) (some (.val (.list (g12 v x y)))) (some (.own (g13 v x y))) (some (.val (.list (g14 v x y)))) (some (.own (g15 v x y))) j16))
def PR (v : Nat) (r : List Nat) : Prop := ∀ (S : D) (B : List D) (j9 j10 j11 j12 j13 j14 j15 : Option SV), c6 (E S B v j9 j10 j11 j12 j13 j14 j15 (some (.val (.tuple (intsD r))))) = some (false, (E S B v j9 j10 j11 j12 j13 j14 j15 (some (.val (.tuple (intsD r))))))
def PP (v : Nat) : Prop := ∀ (S : D) (B : List D), runs pre [some (.val S), some (.own B), some (.val (.int (v : Nat))), none, none, none, none, none, none, none, none, none, none, none, none, none, none, none, none, none, none] = some (E S B v none none none none none none none none)
theorem pre0 : PP 0 := by intro S B; kernel_rfl
theorem len0 : (w3 0).length = 1 := by kernel_rfl
theorem a0_0 : PA 0 0 := fun _ _ _ _ _ _ _ _ _ => ⟨by kernel_rfl, by kernel_rfl, by kernel_rfl⟩
theorem b0_0_0 : PB 0 0 0 := fun _ _ _ _ _ _ _ _ => ⟨by kernel_rfl, by kernel_rfl, by kernel_rfl, by kernel_rfl, by kernel_rfl, by kernel_rfl⟩
theorem b0_0 (y : Nat) (h : y < 1) : PB 0 0 y := match y, h with
  | 0, _ => b0_0_0
  | m + 1, h => absurd h (by omega)
theorem a0 (x : Nat) (h : x < 1) : PA 0 x := match x, h with
  | 0, _ => a0_0
  | m + 1, h => absurd h (by omega)
theorem b0 (x y : Nat) (h : x < 1) (h2 : y < 1) : PB 0 x y := match x, h with
  | 0, _ => b0_0 y h2
  | m + 1, h => absurd h (by omega)
theorem r0_ : PR 0 [] := fun _ _ _ _ _ _ _ _ _ => by kernel_rfl
theorem rk0 (r : List Nat) (hl : r.length = 0) (ha : ∀ a ∈ r, a < 4) : PR 0 r := by
  obtain rfl := List.length_eq_zero_iff.mp hl
  exact r0_
theorem pre1 : PP 1 := by intro S B; kernel_rfl
theorem len1 : (w3 1).length = 1 := by kernel_rfl
theorem a1_0 : PA 1 0 := fun _ _ _ _ _ _ _ _ _ => ⟨by kernel_rfl, by kernel_rfl, by kernel_rfl⟩
theorem b1_0_0 : PB 1 0 0 := fun _ _ _ _ _ _ _ _ => ⟨by kernel_rfl, by kernel_rfl, by kernel_rfl, by kernel_rfl, by kernel_rfl, by kernel_rfl⟩
theorem b1_0 (y : Nat) (h : y < 1) : PB 1 0 y := match y, h with
  | 0, _ => b1_0_0
  | m + 1, h => absurd h (by omega)
theorem a1 (x : Nat) (h : x < 1) : PA 1 x := match x, h with
  | 0, _ => a1_0
  | m + 1, h => absurd h (by omega)
theorem b1 (x y : Nat) (h : x < 1) (h2 : y < 1) : PB 1 x y := match x, h with
  | 0, _ => b1_0 y h2
  | m + 1, h => absurd h (by omega)
theorem r1_0 : PR 1 [0] := fun _ _ _ _ _ _ _ _ _ => by kernel_rfl
theorem r1_1 : PR 1 [1] := fun _ _ _ _ _ _ _ _ _ => by kernel_rfl
theorem r1_2 : PR 1 [2] := fun _ _ _ _ _ _ _ _ _ => by kernel_rfl
theorem r1_3 : PR 1 [3] := fun _ _ _ _ _ _ _ _ _ => by kernel_rfl
theorem rr1 (p0 : Nat) (h0 : p0 < 4) : PR 1 [p0] := match p0, h0 with
  | 0, _ => r1_0
  | 1, _ => r1_1
  | 2, _ => r1_2
  | 3, _ => r1_3
  | m + 4, h => absurd h (by omega)
theorem rk1 (r : List Nat) (hl : r.length = 1) (ha : ∀ a ∈ r, a < 4) : PR 1 r := by
  match r, hl, ha with
  | [p0], _, ha => exact rr1 p0 (ha p0 (by simp))
theorem pre2 : PP 2 := by intro S B; kernel_rfl
theorem len2 : (w3 2).length = 2 := by kernel_rfl
theorem a2_0 : PA 2 0 := fun _ _ _ _ _ _ _ _ _ => ⟨by kernel_rfl, by kernel_rfl, by kernel_rfl⟩
theorem b2_0_0 : PB 2 0 0 := fun _ _ _ _ _ _ _ _ => ⟨by kernel_rfl, by kernel_rfl, by kernel_rfl, by kernel_rfl, by kernel_rfl, by kernel_rfl⟩
theorem b2_0_1 : PB 2 0 1 := fun _ _ _ _ _ _ _ _ => ⟨by kernel_rfl, by kernel_rfl, by kernel_rfl, by kernel_rfl, by kernel_rfl, by kernel_rfl⟩
theorem b2_0 (y : Nat) (h : y < 2) : PB 2 0 y := match y, h with
  | 0, _ => b2_0_0
  | 1, _ => b2_0_1
  | m + 2, h => absurd h (by omega)
theorem a2_1 : PA 2 1 := fun _ _ _ _ _ _ _ _ _ => ⟨by kernel_rfl, by kernel_rfl, by kernel_rfl⟩
theorem b2_1_0 : PB 2 1 0 := fun _ _ _ _ _ _ _ _ => ⟨by kernel_rfl, by kernel_rfl, by kernel_rfl, by kernel_rfl, by kernel_rfl, by kernel_rfl⟩
theorem b2_1_1 : PB 2 1 1 := fun _ _ _ _ _ _ _ _ => ⟨by kernel_rfl, by kernel_rfl, by kernel_rfl, by kernel_rfl, by kernel_rfl, by kernel_rfl⟩
theorem b2_1 (y : Nat) (h : y < 2) : PB 2 1 y := match y, h with
  | 0, _ => b2_1_0
  | 1, _ => b2_1_1
  | m + 2, h => absurd h (by omega)
theorem a2 (x : Nat) (h : x < 2) : PA 2 x := match x, h with
  | 0, _ => a2_0
  | 1, _ => a2_1
  | m + 2, h => absurd h (by omega)
theorem b2 (x y : Nat) (h : x < 2) (h2 : y < 2) : PB 2 x y := match x, h with
  | 0, _ => b2_0 y h2
  | 1, _ => b2_1 y h2
  | m + 2, h => absurd h (by omega)
theorem r2_0_0 : PR 2 [0, 0] := fun _ _ _ _ _ _ _ _ _ => by kernel_rfl
theorem r2_0_1 : PR 2 [0, 1] := fun _ _ _ _ _ _ _ _ _ => by kernel_rfl
theorem r2_0_2 : PR 2 [0, 2] := fun _ _ _ _ _ _ _ _ _ => by kernel_rfl
theorem r2_0_3 : PR 2 [0, 3] := fun _ _ _ _ _ _ _ _ _ => by kernel_rfl
theorem r2_1_0 : PR 2 [1, 0] := fun _ _ _ _ _ _ _ _ _ => by kernel_rfl
theorem r2_1_1 : PR 2 [1, 1] := fun _ _ _ _ _ _ _ _ _ => by kernel_rfl
theorem r2_1_2 : PR 2 [1, 2] := fun _ _ _ _ _ _ _ _ _ => by kernel_rfl
theorem r2_1_3 : PR 2 [1, 3] := fun _ _ _ _ _ _ _ _ _ => by kernel_rfl
theorem r2_2_0 : PR 2 [2, 0] := fun _ _ _ _ _ _ _ _ _ => by kernel_rfl
theorem r2_2_1 : PR 2 [2, 1] := fun _ _ _ _ _ _ _ _ _ => by kernel_rfl
theorem r2_2_2 : PR 2 [2, 2] := fun _ _ _ _ _ _ _ _ _ => by kernel_rfl
theorem r2_2_3 : PR 2 [2, 3] := fun _ _ _ _ _ _ _ _ _ => by kernel_rfl
theorem r2_3_0 : PR 2 [3, 0] := fun _ _ _ _ _ _ _ _ _ => by kernel_rfl
theorem r2_3_1 : PR 2 [3, 1] := fun _ _ _ _ _ _ _ _ _ => by kernel_rfl
theorem r2_3_2 : PR 2 [3, 2] := fun _ _ _ _ _ _ _ _ _ => by kernel_rfl
theorem r2_3_3 : PR 2 [3, 3] := fun _ _ _ _ _ _ _ _ _ => by kernel_rfl
theorem rr2_0 (p1 : Nat) (h1 : p1 < 4) : PR 2 [0, p1] := match p1, h1 with
  | 0, _ => r2_0_0
  | 1, _ => r2_0_1
  | 2, _ => r2_0_2
  | 3, _ => r2_0_3
  | m + 4, h => absurd h (by omega)
theorem rr2_1 (p1 : Nat) (h1 : p1 < 4) : PR 2 [1, p1] := match p1, h1 with
  | 0, _ => r2_1_0
  | 1, _ => r2_1_1
  | 2, _ => r2_1_2
  | 3, _ => r2_1_3
  | m + 4, h => absurd h (by omega)
theorem rr2_2 (p1 : Nat) (h1 : p1 < 4) : PR 2 [2, p1] := match p1, h1 with
  | 0, _ => r2_2_0
  | 1, _ => r2_2_1
  | 2, _ => r2_2_2
  | 3, _ => r2_2_3
  | m + 4, h => absurd h (by omega)
theorem rr2_3 (p1 : Nat) (h1 : p1 < 4) : PR 2 [3, p1] := match p1, h1 with
  | 0, _ => r2_3_0
  | 1, _ => r2_3_1
  | 2, _ => r2_3_2
  | 3, _ => r2_3_3
  | m + 4, h => absurd h (by omega)
theorem rr2 (p0 p1 : Nat) (h0 : p0 < 4) (h1 : p1 < 4) : PR 2 [p0, p1] := match p0, h0 with
  | 0, _ => rr2_0 p1 h1
  | 1, _ => rr2_1 p1 h1
  | 2, _ => rr2_2 p1 h1
  | 3, _ => rr2_3 p1 h1
  | m + 4, h => absurd h (by omega)
theorem rk2 (r : List Nat) (hl : r.length = 2) (ha : ∀ a ∈ r, a < 4) : PR 2 r := by
  match r, hl, ha with
  | [p0, p1], _, ha => exact rr2 p0 p1 (ha p0 (by simp)) (ha p1 (by simp))
theorem pre3 : PP 3 := by intro S B; kernel_rfl
theorem len3 : (w3 3).length = 5 := by kernel_rfl
theorem a3_0 : PA 3 0 := fun _ _ _ _ _ _ _ _ _ => ⟨by kernel_rfl, by kernel_rfl, by kernel_rfl⟩
theorem b3_0_0 : PB 3 0 0 := fun _ _ _ _ _ _ _ _ => ⟨by kernel_rfl, by kernel_rfl, by kernel_rfl, by kernel_rfl, by kernel_rfl, by kernel_rfl⟩
theorem b3_0_1 : PB 3 0 1 := fun _ _ _ _ _ _ _ _ => ⟨by kernel_rfl, by kernel_rfl, by kernel_rfl, by kernel_rfl, by kernel_rfl, by kernel_rfl⟩
theorem b3_0_2 : PB 3 0 2 := fun _ _ _ _ _ _ _ _ => ⟨by kernel_rfl, by kernel_rfl, by kernel_rfl, by kernel_rfl, by kernel_rfl, by kernel_rfl⟩
theorem b3_0_3 : PB 3 0 3 := fun _ _ _ _ _ _ _ _ => ⟨by kernel_rfl, by kernel_rfl, by kernel_rfl, by kernel_rfl, by kernel_rfl, by kernel_rfl⟩
theorem b3_0_4 : PB 3 0 4 := fun _ _ _ _ _ _ _ _ => ⟨by kernel_rfl, by kernel_rfl, by kernel_rfl, by kernel_rfl, by kernel_rfl, by kernel_rfl⟩
theorem b3_0 (y : Nat) (h : y < 5) : PB 3 0 y := match y, h with
  | 0, _ => b3_0_0
  | 1, _ => b3_0_1
  | 2, _ => b3_0_2
  | 3, _ => b3_0_3
  | 4, _ => b3_0_4
  | m + 5, h => absurd h (by omega)
theorem a3_1 : PA 3 1 := fun _ _ _ _ _ _ _ _ _ => ⟨by kernel_rfl, by kernel_rfl, by kernel_rfl⟩
theorem b3_1_0 : PB 3 1 0 := fun _ _ _ _ _ _ _ _ => ⟨by kernel_rfl, by kernel_rfl, by kernel_rfl, by kernel_rfl, by kernel_rfl, by kernel_rfl⟩
theorem b3_1_1 : PB 3 1 1 := fun _ _ _ _ _ _ _ _ => ⟨by kernel_rfl, by kernel_rfl, by kernel_rfl, by kernel_rfl, by kernel_rfl, by kernel_rfl⟩
theorem b3_1_2 : PB 3 1 2 := fun _ _ _ _ _ _ _ _ => ⟨by kernel_rfl, by kernel_rfl, by kernel_rfl, by kernel_rfl, by kernel_rfl, by kernel_rfl⟩
theorem b3_1_3 : PB 3 1 3 := fun _ _ _ _ _ _ _ _ => ⟨by kernel_rfl, by kernel_rfl, by kernel_rfl, by kernel_rfl, by kernel_rfl, by kernel_rfl⟩
theorem b3_1_4 : PB 3 1 4 := fun _ _ _ _ _ _ _ _ => ⟨by kernel_rfl, by kernel_rfl, by kernel_rfl, by kernel_rfl, by kernel_rfl, by kernel_rfl⟩
theorem b3_1 (y : Nat) (h : y < 5) : PB 3 1 y := match y, h with
  | 0, _ => b3_1_0
  | 1, _ => b3_1_1
  | 2, _ => b3_1_2
  | 3, _ => b3_1_3
  | 4, _ => b3_1_4
  | m + 5, h => absurd h (by omega)
theorem a3_2 : PA 3 2 := fun _ _ _ _ _ _ _ _ _ => ⟨by kernel_rfl, by kernel_rfl, by kernel_rfl⟩
theorem b3_2_0 : PB 3 2 0 := fun _ _ _ _ _ _ _ _ => ⟨by kernel_rfl, by kernel_rfl, by kernel_rfl, by kernel_rfl, by kernel_rfl, by kernel_rfl⟩
theorem b3_2_1 : PB 3 2 1 := fun _ _ _ _ _ _ _ _ => ⟨by kernel_rfl, by kernel_rfl, by kernel_rfl, by kernel_rfl, by kernel_rfl, by kernel_rfl⟩
theorem b3_2_2 : PB 3 2 2 := fun _ _ _ _ _ _ _ _ => ⟨by kernel_rfl, by kernel_rfl, by kernel_rfl, by kernel_rfl, by kernel_rfl, by kernel_rfl⟩
theorem b3_2_3 : PB 3 2 3 := fun _ _ _ _ _ _ _ _ => ⟨by kernel_rfl, by kernel_rfl, by kernel_rfl, by kernel_rfl, by kernel_rfl, by kernel_rfl⟩
theorem b3_2_4 : PB 3 2 4 := fun _ _ _ _ _ _ _ _ => ⟨by kernel_rfl, by kernel_rfl, by kernel_rfl, by kernel_rfl, by kernel_rfl, by kernel_rfl⟩
theorem b3_2 (y : Nat) (h : y < 5) : PB 3 2 y := match y, h with
  | 0, _ => b3_2_0
  | 1, _ => b3_2_1
  | 2, _ => b3_2_2
  | 3, _ => b3_2_3
  | 4, _ => b3_2_4
  | m + 5, h => absurd h (by omega)
theorem a3_3 : PA 3 3 := fun _ _ _ _ _ _ _ _ _ => ⟨by kernel_rfl, by kernel_rfl, by kernel_rfl⟩
theorem b3_3_0 : PB 3 3 0 := fun _ _ _ _ _ _ _ _ => ⟨by kernel_rfl, by kernel_rfl, by kernel_rfl, by kernel_rfl, by kernel_rfl, by kernel_rfl⟩
theorem b3_3_1 : PB 3 3 1 := fun _ _ _ _ _ _ _ _ => ⟨by kernel_rfl, by kernel_rfl, by kernel_rfl, by kernel_rfl, by kernel_rfl, by kernel_rfl⟩
theorem b3_3_2 : PB 3 3 2 := fun _ _ _ _ _ _ _ _ => ⟨by kernel_rfl, by kernel_rfl, by kernel_rfl, by kernel_rfl, by kernel_rfl, by kernel_rfl⟩
theorem b3_3_3 : PB 3 3 3 := fun _ _ _ _ _ _ _ _ => ⟨by kernel_rfl, by kernel_rfl, by kernel_rfl, by kernel_rfl, by kernel_rfl, by kernel_rfl⟩
theorem b3_3_4 : PB 3 3 4 := fun _ _ _ _ _ _ _ _ => ⟨by kernel_rfl, by kernel_rfl, by kernel_rfl, by kernel_rfl, by kernel_rfl, by kernel_rfl⟩
theorem b3_3 (y : Nat) (h : y < 5) : PB 3 3 y := match y, h with
  | 0, _ => b3_3_0
  | 1, _ => b3_3_1
  | 2, _ => b3_3_2
  | 3, _ => b3_3_3
  | 4, _ => b3_3_4
  | m + 5, h => absurd h (by omega)
theorem a3_4 : PA 3 4 := fun _ _ _ _ _ _ _ _ _ => ⟨by kernel_rfl, by kernel_rfl, by kernel_rfl⟩
theorem b3_4_0 : PB 3 4 0 := fun _ _ _ _ _ _ _ _ => ⟨by kernel_rfl, by kernel_rfl, by kernel_rfl, by kernel_rfl, by kernel_rfl, by kernel_rfl⟩
theorem b3_4_1 : PB 3 4 1 := fun _ _ _ _ _ _ _ _ => ⟨by kernel_rfl, by kernel_rfl, by kernel_rfl, by kernel_rfl, by kernel_rfl, by kernel_rfl⟩
theorem b3_4_2 : PB 3 4 2 := fun _ _ _ _ _ _ _ _ => ⟨by kernel_rfl, by kernel_rfl, by kernel_rfl, by kernel_rfl, by kernel_rfl, by kernel_rfl⟩
theorem b3_4_3 : PB 3 4 3 := fun _ _ _ _ _ _ _ _ => ⟨by kernel_rfl, by kernel_rfl, by kernel_rfl, by kernel_rfl, by kernel_rfl, by kernel_rfl⟩
theorem b3_4_4 : PB 3 4 4 := fun _ _ _ _ _ _ _ _ => ⟨by kernel_rfl, by kernel_rfl, by kernel_rfl, by kernel_rfl, by kernel_rfl, by kernel_rfl⟩
theorem b3_4 (y : Nat) (h : y < 5) : PB 3 4 y := match y, h with
  | 0, _ => b3_4_0
  | 1, _ => b3_4_1
  | 2, _ => b3_4_2
  | 3, _ => b3_4_3
  | 4, _ => b3_4_4
  | m + 5, h => absurd h (by omega)
theorem a3 (x : Nat) (h : x < 5) : PA 3 x := match x, h with
  | 0, _ => a3_0
  | 1, _ => a3_1
  | 2, _ => a3_2
  | 3, _ => a3_3
  | 4, _ => a3_4
  | m + 5, h => absurd h (by omega)
theorem b3 (x y : Nat) (h : x < 5) (h2 : y < 5) : PB 3 x y := match x, h with
  | 0, _ => b3_0 y h2
  | 1, _ => b3_1 y h2
  | 2, _ => b3_2 y h2
  | 3, _ => b3_3 y h2
  | 4, _ => b3_4 y h2
  | m + 5, h => absurd h (by omega)
theorem r3_0_0_0 : PR 3 [0, 0, 0] := fun _ _ _ _ _ _ _ _ _ => by kernel_rfl
theorem r3_0_0_1 : PR 3 [0, 0, 1] := fun _ _ _ _ _ _ _ _ _ => by kernel_rfl
theorem r3_0_0_2 : PR 3 [0, 0, 2] := fun _ _ _ _ _ _ _ _ _ => by kernel_rfl
theorem r3_0_0_3 : PR 3 [0, 0, 3] := fun _ _ _ _ _ _ _ _ _ => by kernel_rfl
theorem r3_0_1_0 : PR 3 [0, 1, 0] := fun _ _ _ _ _ _ _ _ _ => by kernel_rfl
theorem r3_0_1_1 : PR 3 [0, 1, 1] := fun _ _ _ _ _ _ _ _ _ => by kernel_rfl
theorem r3_0_1_2 : PR 3 [0, 1, 2] := fun _ _ _ _ _ _ _ _ _ => by kernel_rfl
theorem r3_0_1_3 : PR 3 [0, 1, 3] := fun _ _ _ _ _ _ _ _ _ => by kernel_rfl
theorem r3_0_2_0 : PR 3 [0, 2, 0] := fun _ _ _ _ _ _ _ _ _ => by kernel_rfl
theorem r3_0_2_1 : PR 3 [0, 2, 1] := fun _ _ _ _ _ _ _ _ _ => by kernel_rfl
theorem r3_0_2_2 : PR 3 [0, 2, 2] := fun _ _ _ _ _ _ _ _ _ => by kernel_rfl
theorem r3_0_2_3 : PR 3 [0, 2, 3] := fun _ _ _ _ _ _ _ _ _ => by kernel_rfl
theorem r3_0_3_0 : PR 3 [0, 3, 0] := fun _ _ _ _ _ _ _ _ _ => by kernel_rfl
theorem r3_0_3_1 : PR 3 [0, 3, 1] := fun _ _ _ _ _ _ _ _ _ => by kernel_rfl
theorem r3_0_3_2 : PR 3 [0, 3, 2] := fun _ _ _ _ _ _ _ _ _ => by kernel_rfl
theorem r3_0_3_3 : PR 3 [0, 3, 3] := fun _ _ _ _ _ _ _ _ _ => by kernel_rfl
theorem r3_1_0_0 : PR 3 [1, 0, 0] := fun _ _ _ _ _ _ _ _ _ => by kernel_rfl
theorem r3_1_0_1 : PR 3 [1, 0, 1] := fun _ _ _ _ _ _ _ _ _ => by kernel_rfl
theorem r3_1_0_2 : PR 3 [1, 0, 2] := fun _ _ _ _ _ _ _ _ _ => by kernel_rfl
theorem r3_1_0_3 : PR 3 [1, 0, 3] := fun _ _ _ _ _ _ _ _ _ => by kernel_rfl
theorem r3_1_1_0 : PR 3 [1, 1, 0] := fun _ _ _ _ _ _ _ _ _ => by kernel_rfl
theorem r3_1_1_1 : PR 3 [1, 1, 1] := fun _ _ _ _ _ _ _ _ _ => by kernel_rfl
theorem r3_1_1_2 : PR 3 [1, 1, 2] := fun _ _ _ _ _ _ _ _ _ => by kernel_rfl
theorem r3_1_1_3 : PR 3 [1, 1, 3] := fun _ _ _ _ _ _ _ _ _ => by kernel_rfl
theorem r3_1_2_0 : PR 3 [1, 2, 0] := fun _ _ _ _ _ _ _ _ _ => by kernel_rfl
theorem r3_1_2_1 : PR 3 [1, 2, 1] := fun _ _ _ _ _ _ _ _ _ => by kernel_rfl
theorem r3_1_2_2 : PR 3 [1, 2, 2] := fun _ _ _ _ _ _ _ _ _ => by kernel_rfl
theorem r3_1_2_3 : PR 3 [1, 2, 3] := fun _ _ _ _ _ _ _ _ _ => by kernel_rfl
theorem r3_1_3_0 : PR 3 [1, 3, 0] := fun _ _ _ _ _ _ _ _ _ => by kernel_rfl
theorem r3_1_3_1 : PR 3 [1, 3, 1] := fun _ _ _ _ _ _ _ _ _ => by kernel_rfl
theorem r3_1_3_2 : PR 3 [1, 3, 2] := fun _ _ _ _ _ _ _ _ _ => by kernel_rfl
theorem r3_1_3_3 : PR 3 [1, 3, 3] := fun _ _ _ _ _ _ _ _ _ => by kernel_rfl
theorem r3_2_0_0 : PR 3 [2, 0, 0] := fun _ _ _ _ _ _ _ _ _ => by kernel_rfl
theorem r3_2_0_1 : PR 3 [2, 0, 1] := fun _ _ _ _ _ _ _ _ _ => by kernel_rfl
theorem r3_2_0_2 : PR 3 [2, 0, 2] := fun _ _ _ _ _ _ _ _ _ => by kernel_rfl
theorem r3_2_0_3 : PR 3 [2, 0, 3] := fun _ _ _ _ _ _ _ _ _ => by kernel_rfl
theorem r3_2_1_0 : PR 3 [2, 1, 0] := fun _ _ _ _ _ _ _ _ _ => by kernel_rfl
theorem r3_2_1_1 : PR 3 [2, 1, 1] := fun _ _ _ _ _ _ _ _ _ => by kernel_rfl
theorem r3_2_1_2 : PR 3 [2, 1, 2] := fun _ _ _ _ _ _ _ _ _ => by kernel_rfl
theorem r3_2_1_3 : PR 3 [2, 1, 3] := fun _ _ _ _ _ _ _ _ _ => by kernel_rfl
theorem r3_2_2_0 : PR 3 [2, 2, 0] := fun _ _ _ _ _ _ _ _ _ => by kernel_rfl
theorem r3_2_2_1 : PR 3 [2, 2, 1] := fun _ _ _ _ _ _ _ _ _ => by kernel_rfl
theorem r3_2_2_2 : PR 3 [2, 2, 2] := fun _ _ _ _ _ _ _ _ _ => by kernel_rfl
theorem r3_2_2_3 : PR 3 [2, 2, 3] := fun _ _ _ _ _ _ _ _ _ => by kernel_rfl
theorem r3_2_3_0 : PR 3 [2, 3, 0] := fun _ _ _ _ _ _ _ _ _ => by kernel_rfl
theorem r3_2_3_1 : PR 3 [2, 3, 1] := fun _ _ _ _ _ _ _ _ _ => by kernel_rfl
theorem r3_2_3_2 : PR 3 [2, 3, 2] := fun _ _ _ _ _ _ _ _ _ => by kernel_rfl
theorem r3_2_3_3 : PR 3 [2, 3, 3] := fun _ _ _ _ _ _ _ _ _ => by kernel_rfl
theorem r3_3_0_0 : PR 3 [3, 0, 0] := fun _ _ _ _ _ _ _ _ _ => by kernel_rfl
theorem r3_3_0_1 : PR 3 [3, 0, 1] := fun _ _ _ _ _ _ _ _ _ => by kernel_rfl
theorem r3_3_0_2 : PR 3 [3, 0, 2] := fun _ _ _ _ _ _ _ _ _ => by kernel_rfl
theorem r3_3_0_3 : PR 3 [3, 0, 3] := fun _ _ _ _ _ _ _ _ _ => by kernel_rfl
theorem r3_3_1_0 : PR 3 [3, 1, 0] := fun _ _ _ _ _ _ _ _ _ => by kernel_rfl
theorem r3_3_1_1 : PR 3 [3, 1, 1] := fun _ _ _ _ _ _ _ _ _ => by kernel_rfl
theorem r3_3_1_2 : PR 3 [3, 1, 2] := fun _ _ _ _ _ _ _ _ _ => by kernel_rfl
theorem r3_3_1_3 : PR 3 [3, 1, 3] := fun _ _ _ _ _ _ _ _ _ => by kernel_rfl
theorem r3_3_2_0 : PR 3 [3, 2, 0] := fun _ _ _ _ _ _ _ _ _ => by kernel_rfl
theorem r3_3_2_1 : PR 3 [3, 2, 1] := fun _ _ _ _ _ _ _ _ _ => by kernel_rfl
theorem r3_3_2_2 : PR 3 [3, 2, 2] := fun _ _ _ _ _ _ _ _ _ => by kernel_rfl
theorem r3_3_2_3 : PR 3 [3, 2, 3] := fun _ _ _ _ _ _ _ _ _ => by kernel_rfl
theorem r3_3_3_0 : PR 3 [3, 3, 0] := fun _ _ _ _ _ _ _ _ _ => by kernel_rfl
theorem r3_3_3_1 : PR 3 [3, 3, 1] := fun _ _ _ _ _ _ _ _ _ => by kernel_rfl
theorem r3_3_3_2 : PR 3 [3, 3, 2] := fun _ _ _ _ _ _ _ _ _ => by kernel_rfl
theorem r3_3_3_3 : PR 3 [3, 3, 3] := fun _ _ _ _ _ _ _ _ _ => by kernel_rfl
theorem rr3_0_0 (p2 : Nat) (h2 : p2 < 4) : PR 3 [0, 0, p2] := match p2, h2 with
  | 0, _ => r3_0_0_0
  | 1, _ => r3_0_0_1
  | 2, _ => r3_0_0_2
  | 3, _ => r3_0_0_3
  | m + 4, h => absurd h (by omega)
theorem rr3_0_1 (p2 : Nat) (h2 : p2 < 4) : PR 3 [0, 1, p2] := match p2, h2 with
  | 0, _ => r3_0_1_0
  | 1, _ => r3_0_1_1
  | 2, _ => r3_0_1_2
  | 3, _ => r3_0_1_3
  | m + 4, h => absurd h (by omega)
theorem rr3_0_2 (p2 : Nat) (h2 : p2 < 4) : PR 3 [0, 2, p2] := match p2, h2 with
  | 0, _ => r3_0_2_0
  | 1, _ => r3_0_2_1
  | 2, _ => r3_0_2_2
  | 3, _ => r3_0_2_3
  | m + 4, h => absurd h (by omega)
theorem rr3_0_3 (p2 : Nat) (h2 : p2 < 4) : PR 3 [0, 3, p2] := match p2, h2 with
  | 0, _ => r3_0_3_0
  | 1, _ => r3_0_3_1
  | 2, _ => r3_0_3_2
  | 3, _ => r3_0_3_3
  | m + 4, h => absurd h (by omega)
theorem rr3_0 (p1 p2 : Nat) (h1 : p1 < 4) (h2 : p2 < 4) : PR 3 [0, p1, p2] := match p1, h1 with
  | 0, _ => rr3_0_0 p2 h2
  | 1, _ => rr3_0_1 p2 h2
  | 2, _ => rr3_0_2 p2 h2
  | 3, _ => rr3_0_3 p2 h2
  | m + 4, h => absurd h (by omega)
theorem rr3_1_0 (p2 : Nat) (h2 : p2 < 4) : PR 3 [1, 0, p2] := match p2, h2 with
  | 0, _ => r3_1_0_0
  | 1, _ => r3_1_0_1
  | 2, _ => r3_1_0_2
  | 3, _ => r3_1_0_3
  | m + 4, h => absurd h (by omega)
theorem rr3_1_1 (p2 : Nat) (h2 : p2 < 4) : PR 3 [1, 1, p2] := match p2, h2 with
  | 0, _ => r3_1_1_0
  | 1, _ => r3_1_1_1
  | 2, _ => r3_1_1_2
  | 3, _ => r3_1_1_3
  | m + 4, h => absurd h (by omega)
theorem rr3_1_2 (p2 : Nat) (h2 : p2 < 4) : PR 3 [1, 2, p2] := match p2, h2 with
  | 0, _ => r3_1_2_0
  | 1, _ => r3_1_2_1
  | 2, _ => r3_1_2_2
  | 3, _ => r3_1_2_3
  | m + 4, h => absurd h (by omega)
theorem rr3_1_3 (p2 : Nat) (h2 : p2 < 4) : PR 3 [1, 3, p2] := match p2, h2 with
  | 0, _ => r3_1_3_0
  | 1, _ => r3_1_3_1
  | 2, _ => r3_1_3_2
  | 3, _ => r3_1_3_3
  | m + 4, h => absurd h (by omega)
theorem rr3_1 (p1 p2 : Nat) (h1 : p1 < 4) (h2 : p2 < 4) : PR 3 [1, p1, p2] := match p1, h1 with
  | 0, _ => rr3_1_0 p2 h2
  | 1, _ => rr3_1_1 p2 h2
  | 2, _ => rr3_1_2 p2 h2
  | 3, _ => rr3_1_3 p2 h2
  | m + 4, h => absurd h (by omega)
theorem rr3_2_0 (p2 : Nat) (h2 : p2 < 4) : PR 3 [2, 0, p2] := match p2, h2 with
  | 0, _ => r3_2_0_0
  | 1, _ => r3_2_0_1
  | 2, _ => r3_2_0_2
  | 3, _ => r3_2_0_3
  | m + 4, h => absurd h (by omega)
theorem rr3_2_1 (p2 : Nat) (h2 : p2 < 4) : PR 3 [2, 1, p2] := match p2, h2 with
  | 0, _ => r3_2_1_0
  | 1, _ => r3_2_1_1
  | 2, _ => r3_2_1_2
  | 3, _ => r3_2_1_3
  | m + 4, h => absurd h (by omega)
theorem rr3_2_2 (p2 : Nat) (h2 : p2 < 4) : PR 3 [2, 2, p2] := match p2, h2 with
  | 0, _ => r3_2_2_0
  | 1, _ => r3_2_2_1
  | 2, _ => r3_2_2_2
  | 3, _ => r3_2_2_3
  | m + 4, h => absurd h (by omega)
theorem rr3_2_3 (p2 : Nat) (h2 : p2 < 4) : PR 3 [2, 3, p2] := match p2, h2 with
  | 0, _ => r3_2_3_0
  | 1, _ => r3_2_3_1
  | 2, _ => r3_2_3_2
  | 3, _ => r3_2_3_3
  | m + 4, h => absurd h (by omega)
theorem rr3_2 (p1 p2 : Nat) (h1 : p1 < 4) (h2 : p2 < 4) : PR 3 [2, p1, p2] := match p1, h1 with
  | 0, _ => rr3_2_0 p2 h2
  | 1, _ => rr3_2_1 p2 h2
  | 2, _ => rr3_2_2 p2 h2
  | 3, _ => rr3_2_3 p2 h2
  | m + 4, h => absurd h (by omega)
theorem rr3_3_0 (p2 : Nat) (h2 : p2 < 4) : PR 3 [3, 0, p2] := match p2, h2 with
  | 0, _ => r3_3_0_0
  | 1, _ => r3_3_0_1
  | 2, _ => r3_3_0_2
  | 3, _ => r3_3_0_3
  | m + 4, h => absurd h (by omega)
theorem rr3_3_1 (p2 : Nat) (h2 : p2 < 4) : PR 3 [3, 1, p2] := match p2, h2 with
  | 0, _ => r3_3_1_0
  | 1, _ => r3_3_1_1
  | 2, _ => r3_3_1_2
  | 3, _ => r3_3_1_3
  | m + 4, h => absurd h (by omega)
theorem rr3_3_2 (p2 : Nat) (h2 : p2 < 4) : PR 3 [3, 2, p2] := match p2, h2 with
  | 0, _ => r3_3_2_0
  | 1, _ => r3_3_2_1
  | 2, _ => r3_3_2_2
  | 3, _ => r3_3_2_3
  | m + 4, h => absurd h (by omega)
theorem rr3_3_3 (p2 : Nat) (h2 : p2 < 4) : PR 3 [3, 3, p2] := match p2, h2 with
  | 0, _ => r3_3_3_0
  | 1, _ => r3_3_3_1
  | 2, _ => r3_3_3_2
  | 3, _ => r3_3_3_3
  | m + 4, h => absurd h (by omega)
theorem rr3_3 (p1 p2 : Nat) (h1 : p1 < 4) (h2 : p2 < 4) : PR 3 [3, p1, p2] := match p1, h1 with
  | 0, _ => rr3_3_0 p2 h2
  | 1, _ => rr3_3_1 p2 h2
  | 2, _ => rr3_3_2 p2 h2
  | 3, _ => rr3_3_3 p2 h2
  | m + 4, h => absurd h (by omega)
theorem rr3 (p0 p1 p2 : Nat) (h0 : p0 < 4) (h1 : p1 < 4) (h2 : p2 < 4) : PR 3 [p0, p1, p2] := match p0, h0 with
  | 0, _ => rr3_0 p1 p2 h1 h2
  | 1, _ => rr3_1 p1 p2 h1 h2
  | 2, _ => rr3_2 p1 p2 h1 h2
  | 3, _ => rr3_3 p1 p2 h1 h2
  | m + 4, h => absurd h (by omega)
theorem rk3 (r : List Nat) (hl : r.length = 3) (ha : ∀ a ∈ r, a < 4) : PR 3 r := by
  match r, hl, ha with
  | [p0, p1, p2], _, ha => exact rr3 p0 p1 p2 (ha p0 (by simp)) (ha p1 (by simp)) (ha p2 (by simp))
theorem pre4 : PP 4 := by intro S B; kernel_rfl
theorem len4 : (w3 4).length = 14 := by kernel_rfl
theorem a4_0 : PA 4 0 := fun _ _ _ _ _ _ _ _ _ => ⟨by kernel_rfl, by kernel_rfl, by kernel_rfl⟩
theorem b4_0_0 : PB 4 0 0 := fun _ _ _ _ _ _ _ _ => ⟨by kernel_rfl, by kernel_rfl, by kernel_rfl, by kernel_rfl, by kernel_rfl, by kernel_rfl⟩
theorem b4_0_1 : PB 4 0 1 := fun _ _ _ _ _ _ _ _ => ⟨by kernel_rfl, by kernel_rfl, by kernel_rfl, by kernel_rfl, by kernel_rfl, by kernel_rfl⟩
theorem b4_0_2 : PB 4 0 2 := fun _ _ _ _ _ _ _ _ => ⟨by kernel_rfl, by kernel_rfl, by kernel_rfl, by kernel_rfl, by kernel_rfl, by kernel_rfl⟩
theorem b4_0_3 : PB 4 0 3 := fun _ _ _ _ _ _ _ _ => ⟨by kernel_rfl, by kernel_rfl, by kernel_rfl, by kernel_rfl, by kernel_rfl, by kernel_rfl⟩
theorem b4_0_4 : PB 4 0 4 := fun _ _ _ _ _ _ _ _ => ⟨by kernel_rfl, by kernel_rfl, by kernel_rfl, by kernel_rfl, by kernel_rfl, by kernel_rfl⟩
theorem b4_0_5 : PB 4 0 5 := fun _ _ _ _ _ _ _ _ => ⟨by kernel_rfl, by kernel_rfl, by kernel_rfl, by kernel_rfl, by kernel_rfl, by kernel_rfl⟩
theorem b4_0_6 : PB 4 0 6 := fun _ _ _ _ _ _ _ _ => ⟨by kernel_rfl, by kernel_rfl, by kernel_rfl, by kernel_rfl, by kernel_rfl, by kernel_rfl⟩
theorem b4_0_7 : PB 4 0 7 := fun _ _ _ _ _ _ _ _ => ⟨by kernel_rfl, by kernel_rfl, by kernel_rfl, by kernel_rfl, by kernel_rfl, by kernel_rfl⟩
theorem b4_0_8 : PB 4 0 8 := fun _ _ _ _ _ _ _ _ => ⟨by kernel_rfl, by kernel_rfl, by kernel_rfl, by kernel_rfl, by kernel_rfl, by kernel_rfl⟩
theorem b4_0_9 : PB 4 0 9 := fun _ _ _ _ _ _ _ _ => ⟨by kernel_rfl, by kernel_rfl, by kernel_rfl, by kernel_rfl, by kernel_rfl, by kernel_rfl⟩
theorem b4_0_10 : PB 4 0 10 := fun _ _ _ _ _ _ _ _ => ⟨by kernel_rfl, by kernel_rfl, by kernel_rfl, by kernel_rfl, by kernel_rfl, by kernel_rfl⟩
theorem b4_0_11 : PB 4 0 11 := fun _ _ _ _ _ _ _ _ => ⟨by kernel_rfl, by kernel_rfl, by kernel_rfl, by kernel_rfl, by kernel_rfl, by kernel_rfl⟩
theorem b4_0_12 : PB 4 0 12 := fun _ _ _ _ _ _ _ _ => ⟨by kernel_rfl, by kernel_rfl, by kernel_rfl, by kernel_rfl, by kernel_rfl, by kernel_rfl⟩
theorem b4_0_13 : PB 4 0 13 := fun _ _ _ _ _ _ _ _ => ⟨by kernel_rfl, by kernel_rfl, by kernel_rfl, by kernel_rfl, by kernel_rfl, by kernel_rfl⟩
theorem b4_0 (y : Nat) (h : y < 14) : PB 4 0 y := match y, h with
  | 0, _ => b4_0_0
  | 1, _ => b4_0_1
  | 2, _ => b4_0_2
  | 3, _ => b4_0_3
  | 4, _ => b4_0_4
  | 5, _ => b4_0_5
  | 6, _ => b4_0_6
  | 7, _ => b4_0_7
  | 8, _ => b4_0_8
  | 9, _ => b4_0_9
  | 10, _ => b4_0_10
  | 11, _ => b4_0_11
  | 12, _ => b4_0_12
  | 13, _ => b4_0_13
  | m + 14, h => absurd h (by omega)
theorem a4_1 : PA 4 1 := fun _ _ _ _ _ _ _ _ _ => ⟨by kernel_rfl, by kernel_rfl, by kernel_rfl⟩
theorem b4_1_0 : PB 4 1 0 := fun _ _ _ _ _ _ _ _ => ⟨by kernel_rfl, by kernel_rfl, by kernel_rfl, by kernel_rfl, by kernel_rfl, by kernel_rfl⟩
theorem b4_1_1 : PB 4 1 1 := fun _ _ _ _ _ _ _ _ => ⟨by kernel_rfl, by kernel_rfl, by kernel_rfl, by kernel_rfl, by kernel_rfl, by kernel_rfl⟩
theorem b4_1_2 : PB 4 1 2 := fun _ _ _ _ _ _ _ _ => ⟨by kernel_rfl, by kernel_rfl, by kernel_rfl, by kernel_rfl, by kernel_rfl, by kernel_rfl⟩
theorem b4_1_3 : PB 4 1 3 := fun _ _ _ _ _ _ _ _ => ⟨by kernel_rfl, by kernel_rfl, by kernel_rfl, by kernel_rfl, by kernel_rfl, by kernel_rfl⟩
theorem b4_1_4 : PB 4 1 4 := fun _ _ _ _ _ _ _ _ => ⟨by kernel_rfl, by kernel_rfl, by kernel_rfl, by kernel_rfl, by kernel_rfl, by kernel_rfl⟩
theorem b4_1_5 : PB 4 1 5 := fun _ _ _ _ _ _ _ _ => ⟨by kernel_rfl, by kernel_rfl, by kernel_rfl, by kernel_rfl, by kernel_rfl, by kernel_rfl⟩
theorem b4_1_6 : PB 4 1 6 := fun _ _ _ _ _ _ _ _ => ⟨by kernel_rfl, by kernel_rfl, by kernel_rfl, by kernel_rfl, by kernel_rfl, by kernel_rfl⟩
theorem b4_1_7 : PB 4 1 7 := fun _ _ _ _ _ _ _ _ => ⟨by kernel_rfl, by kernel_rfl, by kernel_rfl, by kernel_rfl, by kernel_rfl, by kernel_rfl⟩
theorem b4_1_8 : PB 4 1 8 := fun _ _ _ _ _ _ _ _ => ⟨by kernel_rfl, by kernel_rfl, by kernel_rfl, by kernel_rfl, by kernel_rfl, by kernel_rfl⟩
theorem b4_1_9 : PB 4 1 9 := fun _ _ _ _ _ _ _ _ => ⟨by kernel_rfl, by kernel_rfl, by kernel_rfl, by kernel_rfl, by kernel_rfl, by kernel_rfl⟩
theorem b4_1_10 : PB 4 1 10 := fun _ _ _ _ _ _ _ _ => ⟨by kernel_rfl, by kernel_rfl, by kernel_rfl, by kernel_rfl, by kernel_rfl, by kernel_rfl⟩
theorem b4_1_11 : PB 4 1 11 := fun _ _ _ _ _ _ _ _ => ⟨by kernel_rfl, by kernel_rfl, by kernel_rfl, by kernel_rfl, by kernel_rfl, by kernel_rfl⟩
theorem b4_1_12 : PB 4 1 12 := fun _ _ _ _ _ _ _ _ => ⟨by kernel_rfl, by kernel_rfl, by kernel_rfl, by kernel_rfl, by kernel_rfl, by kernel_rfl⟩
theorem b4_1_13 : PB 4 1 13 := fun _ _ _ _ _ _ _ _ => ⟨by kernel_rfl, by kernel_rfl, by kernel_rfl, by kernel_rfl, by kernel_rfl, by kernel_rfl⟩
theorem b4_1 (y : Nat) (h : y < 14) : PB 4 1 y := match y, h with
  | 0, _ => b4_1_0
  | 1, _ => b4_1_1
  | 2, _ => b4_1_2
  | 3, _ => b4_1_3
  | 4, _ => b4_1_4
  | 5, _ => b4_1_5
  | 6, _ => b4_1_6
  | 7, _ => b4_1_7
  | 8, _ => b4_1_8
  | 9, _ => b4_1_9
  | 10, _ => b4_1_10
  | 11, _ => b4_1_11
  | 12, _ => b4_1_12
  | 13, _ => b4_1_13
  | m + 14, h => absurd h (by omega)
theorem a4_2 : PA 4 2 := fun _ _ _ _ _ _ _ _ _ => ⟨by kernel_rfl, by kernel_rfl, by kernel_rfl⟩
theorem b4_2_0 : PB 4 2 0 := fun _ _ _ _ _ _ _ _ => ⟨by kernel_rfl, by kernel_rfl, by kernel_rfl, by kernel_rfl, by kernel_rfl, by kernel_rfl⟩
theorem b4_2_1 : PB 4 2 1 := fun _ _ _ _ _ _ _ _ => ⟨by kernel_rfl, by kernel_rfl, by kernel_rfl, by kernel_rfl, by kernel_rfl, by kernel_rfl⟩
theorem b4_2_2 : PB 4 2 2 := fun _ _ _ _ _ _ _ _ => ⟨by kernel_rfl, by kernel_rfl, by kernel_rfl, by kernel_rfl, by kernel_rfl, by kernel_rfl⟩
theorem b4_2_3 : PB 4 2 3 := fun _ _ _ _ _ _ _ _ => ⟨by kernel_rfl, by kernel_rfl, by kernel_rfl, by kernel_rfl, by kernel_rfl, by kernel_rfl⟩
theorem b4_2_4 : PB 4 2 4 := fun _ _ _ _ _ _ _ _ => ⟨by kernel_rfl, by kernel_rfl, by kernel_rfl, by kernel_rfl, by kernel_rfl, by kernel_rfl⟩
theorem b4_2_5 : PB 4 2 5 := fun _ _ _ _ _ _ _ _ => ⟨by kernel_rfl, by kernel_rfl, by kernel_rfl, by kernel_rfl, by kernel_rfl, by kernel_rfl⟩
theorem b4_2_6 : PB 4 2 6 := fun _ _ _ _ _ _ _ _ => ⟨by kernel_rfl, by kernel_rfl, by kernel_rfl, by kernel_rfl, by kernel_rfl, by kernel_rfl⟩
theorem b4_2_7 : PB 4 2 7 := fun _ _ _ _ _ _ _ _ => ⟨by kernel_rfl, by kernel_rfl, by kernel_rfl, by kernel_rfl, by kernel_rfl, by kernel_rfl⟩
theorem b4_2_8 : PB 4 2 8 := fun _ _ _ _ _ _ _ _ => ⟨by kernel_rfl, by kernel_rfl, by kernel_rfl, by kernel_rfl, by kernel_rfl, by kernel_rfl⟩
theorem b4_2_9 : PB 4 2 9 := fun _ _ _ _ _ _ _ _ => ⟨by kernel_rfl, by kernel_rfl, by kernel_rfl, by kernel_rfl, by kernel_rfl, by kernel_rfl⟩
theorem b4_2_10 : PB 4 2 10 := fun _ _ _ _ _ _ _ _ => ⟨by kernel_rfl, by kernel_rfl, by kernel_rfl, by kernel_rfl, by kernel_rfl, by kernel_rfl⟩
theorem b4_2_11 : PB 4 2 11 := fun _ _ _ _ _ _ _ _ => ⟨by kernel_rfl, by kernel_rfl, by kernel_rfl, by kernel_rfl, by kernel_rfl, by kernel_rfl⟩
theorem b4_2_12 : PB 4 2 12 := fun _ _ _ _ _ _ _ _ => ⟨by kernel_rfl, by kernel_rfl, by kernel_rfl, by kernel_rfl, by kernel_rfl, by kernel_rfl⟩
theorem b4_2_13 : PB 4 2 13 := fun _ _ _ _ _ _ _ _ => ⟨by kernel_rfl, by kernel_rfl, by kernel_rfl, by kernel_rfl, by kernel_rfl, by kernel_rfl⟩
theorem b4_2 (y : Nat) (h : y < 14) : PB 4 2 y := match y, h with
  | 0, _ => b4_2_0
  | 1, _ => b4_2_1
  | 2, _ => b4_2_2
  | 3, _ => b4_2_3
  | 4, _ => b4_2_4
  | 5, _ => b4_2_5
  | 6, _ => b4_2_6
  | 7, _ => b4_2_7
  | 8, _ => b4_2_8
  | 9, _ => b4_2_9
  | 10, _ => b4_2_10
  | 11, _ => b4_2_11
  | 12, _ => b4_2_12
  | 13, _ => b4_2_13
  | m + 14, h => absurd h (by omega)
theorem a4_3 : PA 4 3 := fun _ _ _ _ _ _ _ _ _ => ⟨by kernel_rfl, by kernel_rfl, by kernel_rfl⟩
theorem b4_3_0 : PB 4 3 0 := fun _ _ _ _ _ _ _ _ => ⟨by kernel_rfl, by kernel_rfl, by kernel_rfl, by kernel_rfl, by kernel_rfl, by kernel_rfl⟩
theorem b4_3_1 : PB 4 3 1 := fun _ _ _ _ _ _ _ _ => ⟨by kernel_rfl, by kernel_rfl, by kernel_rfl, by kernel_rfl, by kernel_rfl, by kernel_rfl⟩
theorem b4_3_2 : PB 4 3 2 := fun _ _ _ _ _ _ _ _ => ⟨by kernel_rfl, by kernel_rfl, by kernel_rfl, by kernel_rfl, by kernel_rfl, by kernel_rfl⟩
theorem b4_3_3 : PB 4 3 3 := fun _ _ _ _ _ _ _ _ => ⟨by kernel_rfl, by kernel_rfl, by kernel_rfl, by kernel_rfl, by kernel_rfl, by kernel_rfl⟩
theorem b4_3_4 : PB 4 3 4 := fun _ _ _ _ _ _ _ _ => ⟨by kernel_rfl, by kernel_rfl, by kernel_rfl, by kernel_rfl, by kernel_rfl, by kernel_rfl⟩
theorem b4_3_5 : PB 4 3 5 := fun _ _ _ _ _ _ _ _ => ⟨by kernel_rfl, by kernel_rfl, by kernel_rfl, by kernel_rfl, by kernel_rfl, by kernel_rfl⟩
theorem b4_3_6 : PB 4 3 6 := fun _ _ _ _ _ _ _ _ => ⟨by kernel_rfl, by kernel_rfl, by kernel_rfl, by kernel_rfl, by kernel_rfl, by kernel_rfl⟩
theorem b4_3_7 : PB 4 3 7 := fun _ _ _ _ _ _ _ _ => ⟨by kernel_rfl, by kernel_rfl, by kernel_rfl, by kernel_rfl, by kernel_rfl, by kernel_rfl⟩
theorem b4_3_8 : PB 4 3 8 := fun _ _ _ _ _ _ _ _ => ⟨by kernel_rfl, by kernel_rfl, by kernel_rfl, by kernel_rfl, by kernel_rfl, by kernel_rfl⟩
theorem b4_3_9 : PB 4 3 9 := fun _ _ _ _ _ _ _ _ => ⟨by kernel_rfl, by kernel_rfl, by kernel_rfl, by kernel_rfl, by kernel_rfl, by kernel_rfl⟩
theorem b4_3_10 : PB 4 3 10 := fun _ _ _ _ _ _ _ _ => ⟨by kernel_rfl, by kernel_rfl, by kernel_rfl, by kernel_rfl, by kernel_rfl, by kernel_rfl⟩
theorem b4_3_11 : PB 4 3 11 := fun _ _ _ _ _ _ _ _ => ⟨by kernel_rfl, by kernel_rfl, by kernel_rfl, by kernel_rfl, by kernel_rfl, by kernel_rfl⟩
theorem b4_3_12 : PB 4 3 12 := fun _ _ _ _ _ _ _ _ => ⟨by kernel_rfl, by kernel_rfl, by kernel_rfl, by kernel_rfl, by kernel_rfl, by kernel_rfl⟩
theorem b4_3_13 : PB 4 3 13 := fun _ _ _ _ _ _ _ _ => ⟨by kernel_rfl, by kernel_rfl, by kernel_rfl, by kernel_rfl, by kernel_rfl, by kernel_rfl⟩
theorem b4_3 (y : Nat) (h : y < 14) : PB 4 3 y := match y, h with
  | 0, _ => b4_3_0
  | 1, _ => b4_3_1
  | 2, _ => b4_3_2
  | 3, _ => b4_3_3
  | 4, _ => b4_3_4
  | 5, _ => b4_3_5
  | 6, _ => b4_3_6
  | 7, _ => b4_3_7
  | 8, _ => b4_3_8
  | 9, _ => b4_3_9
  | 10, _ => b4_3_10
  | 11, _ => b4_3_11
  | 12, _ => b4_3_12
  | 13, _ => b4_3_13
  | m + 14, h => absurd h (by omega)
theorem a4_4 : PA 4 4 := fun _ _ _ _ _ _ _ _ _ => ⟨by kernel_rfl, by kernel_rfl, by kernel_rfl⟩
theorem b4_4_0 : PB 4 4 0 := fun _ _ _ _ _ _ _ _ => ⟨by kernel_rfl, by kernel_rfl, by kernel_rfl, by kernel_rfl, by kernel_rfl, by kernel_rfl⟩
theorem b4_4_1 : PB 4 4 1 := fun _ _ _ _ _ _ _ _ => ⟨by kernel_rfl, by kernel_rfl, by kernel_rfl, by kernel_rfl, by kernel_rfl, by kernel_rfl⟩
theorem b4_4_2 : PB 4 4 2 := fun _ _ _ _ _ _ _ _ => ⟨by kernel_rfl, by kernel_rfl, by kernel_rfl, by kernel_rfl, by kernel_rfl, by kernel_rfl⟩
theorem b4_4_3 : PB 4 4 3 := fun _ _ _ _ _ _ _ _ => ⟨by kernel_rfl, by kernel_rfl, by kernel_rfl, by kernel_rfl, by kernel_rfl, by kernel_rfl⟩
theorem b4_4_4 : PB 4 4 4 := fun _ _ _ _ _ _ _ _ => ⟨by kernel_rfl, by kernel_rfl, by kernel_rfl, by kernel_rfl, by kernel_rfl, by kernel_rfl⟩
theorem b4_4_5 : PB 4 4 5 := fun _ _ _ _ _ _ _ _ => ⟨by kernel_rfl, by kernel_rfl, by kernel_rfl, by kernel_rfl, by kernel_rfl, by kernel_rfl⟩
theorem b4_4_6 : PB 4 4 6 := fun _ _ _ _ _ _ _ _ => ⟨by kernel_rfl, by kernel_rfl, by kernel_rfl, by kernel_rfl, by kernel_rfl, by kernel_rfl⟩
theorem b4_4_7 : PB 4 4 7 := fun _ _ _ _ _ _ _ _ => ⟨by kernel_rfl, by kernel_rfl, by kernel_rfl, by kernel_rfl, by kernel_rfl, by kernel_rfl⟩
theorem b4_4_8 : PB 4 4 8 := fun _ _ _ _ _ _ _ _ => ⟨by kernel_rfl, by kernel_rfl, by kernel_rfl, by kernel_rfl, by kernel_rfl, by kernel_rfl⟩
theorem b4_4_9 : PB 4 4 9 := fun _ _ _ _ _ _ _ _ => ⟨by kernel_rfl, by kernel_rfl, by kernel_rfl, by kernel_rfl, by kernel_rfl, by kernel_rfl⟩
theorem b4_4_10 : PB 4 4 10 := fun _ _ _ _ _ _ _ _ => ⟨by kernel_rfl, by kernel_rfl, by kernel_rfl, by kernel_rfl, by kernel_rfl, by kernel_rfl⟩
theorem b4_4_11 : PB 4 4 11 := fun _ _ _ _ _ _ _ _ => ⟨by kernel_rfl, by kernel_rfl, by kernel_rfl, by kernel_rfl, by kernel_rfl, by kernel_rfl⟩
theorem b4_4_12 : PB 4 4 12 := fun _ _ _ _ _ _ _ _ => ⟨by kernel_rfl, by kernel_rfl, by kernel_rfl, by kernel_rfl, by kernel_rfl, by kernel_rfl⟩
theorem b4_4_13 : PB 4 4 13 := fun _ _ _ _ _ _ _ _ => ⟨by kernel_rfl, by kernel_rfl, by kernel_rfl, by kernel_rfl, by kernel_rfl, by kernel_rfl⟩
theorem b4_4 (y : Nat) (h : y < 14) : PB 4 4 y := match y, h with
  | 0, _ => b4_4_0
  | 1, _ => b4_4_1
  | 2, _ => b4_4_2
  | 3, _ => b4_4_3
  | 4, _ => b4_4_4
  | 5, _ => b4_4_5
  | 6, _ => b4_4_6
  | 7, _ => b4_4_7
  | 8, _ => b4_4_8
  | 9, _ => b4_4_9
  | 10, _ => b4_4_10
  | 11, _ => b4_4_11
  | 12, _ => b4_4_12
  | 13, _ => b4_4_13
  | m + 14, h => absurd h (by omega)
theorem a4_5 : PA 4 5 := fun _ _ _ _ _ _ _ _ _ => ⟨by kernel_rfl, by kernel_rfl, by kernel_rfl⟩
theorem b4_5_0 : PB 4 5 0 := fun _ _ _ _ _ _ _ _ => ⟨by kernel_rfl, by kernel_rfl, by kernel_rfl, by kernel_rfl, by kernel_rfl, by kernel_rfl⟩
theorem b4_5_1 : PB 4 5 1 := fun _ _ _ _ _ _ _ _ => ⟨by kernel_rfl, by kernel_rfl, by kernel_rfl, by kernel_rfl, by kernel_rfl, by kernel_rfl⟩
theorem b4_5_2 : PB 4 5 2 := fun _ _ _ _ _ _ _ _ => ⟨by kernel_rfl, by kernel_rfl, by kernel_rfl, by kernel_rfl, by kernel_rfl, by kernel_rfl⟩
theorem b4_5_3 : PB 4 5 3 := fun _ _ _ _ _ _ _ _ => ⟨by kernel_rfl, by kernel_rfl, by kernel_rfl, by kernel_rfl, by kernel_rfl, by kernel_rfl⟩
theorem b4_5_4 : PB 4 5 4 := fun _ _ _ _ _ _ _ _ => ⟨by kernel_rfl, by kernel_rfl, by kernel_rfl, by kernel_rfl, by kernel_rfl, by kernel_rfl⟩
theorem b4_5_5 : PB 4 5 5 := fun _ _ _ _ _ _ _ _ => ⟨by kernel_rfl, by kernel_rfl, by kernel_rfl, by kernel_rfl, by kernel_rfl, by kernel_rfl⟩
theorem b4_5_6 : PB 4 5 6 := fun _ _ _ _ _ _ _ _ => ⟨by kernel_rfl, by kernel_rfl, by kernel_rfl, by kernel_rfl, by kernel_rfl, by kernel_rfl⟩
theorem b4_5_7 : PB 4 5 7 := fun _ _ _ _ _ _ _ _ => ⟨by kernel_rfl, by kernel_rfl, by kernel_rfl, by kernel_rfl, by kernel_rfl, by kernel_rfl⟩
theorem b4_5_8 : PB 4 5 8 := fun _ _ _ _ _ _ _ _ => ⟨by kernel_rfl, by kernel_rfl, by kernel_rfl, by kernel_rfl, by kernel_rfl, by kernel_rfl⟩
theorem b4_5_9 : PB 4 5 9 := fun _ _ _ _ _ _ _ _ => ⟨by kernel_rfl, by kernel_rfl, by kernel_rfl, by kernel_rfl, by kernel_rfl, by kernel_rfl⟩
theorem b4_5_10 : PB 4 5 10 := fun _ _ _ _ _ _ _ _ => ⟨by kernel_rfl, by kernel_rfl, by kernel_rfl, by kernel_rfl, by kernel_rfl, by kernel_rfl⟩
theorem b4_5_11 : PB 4 5 11 := fun _ _ _ _ _ _ _ _ => ⟨by kernel_rfl, by kernel_rfl, by kernel_rfl, by kernel_rfl, by kernel_rfl, by kernel_rfl⟩
theorem b4_5_12 : PB 4 5 12 := fun _ _ _ _ _ _ _ _ => ⟨by kernel_rfl, by kernel_rfl, by kernel_rfl, by kernel_rfl, by kernel_rfl, by kernel_rfl⟩
theorem b4_5_13 : PB 4 5 13 := fun _ _ _ _ _ _ _ _ => ⟨by kernel_rfl, by kernel_rfl, by kernel_rfl, by kernel_rfl, by kernel_rfl, by kernel_rfl⟩
theorem b4_5 (y : Nat) (h : y < 14) : PB 4 5 y := match y, h with
  | 0, _ => b4_5_0
  | 1, _ => b4_5_1
  | 2, _ => b4_5_2
  | 3, _ => b4_5_3
  | 4, _ => b4_5_4
  | 5, _ => b4_5_5
  | 6, _ => b4_5_6
  | 7, _ => b4_5_7
  | 8, _ => b4_5_8
  | 9, _ => b4_5_9
  | 10, _ => b4_5_10
  | 11, _ => b4_5_11
  | 12, _ => b4_5_12
  | 13, _ => b4_5_13
  | m + 14, h => absurd h (by omega)
theorem a4_6 : PA 4 6 := fun _ _ _ _ _ _ _ _ _ => ⟨by kernel_rfl, by kernel_rfl, by kernel_rfl⟩
theorem b4_6_0 : PB 4 6 0 := fun _ _ _ _ _ _ _ _ => ⟨by kernel_rfl, by kernel_rfl, by kernel_rfl, by kernel_rfl, by kernel_rfl, by kernel_rfl⟩
theorem b4_6_1 : PB 4 6 1 := fun _ _ _ _ _ _ _ _ => ⟨by kernel_rfl, by kernel_rfl, by kernel_rfl, by kernel_rfl, by kernel_rfl, by kernel_rfl⟩
theorem b4_6_2 : PB 4 6 2 := fun _ _ _ _ _ _ _ _ => ⟨by kernel_rfl, by kernel_rfl, by kernel_rfl, by kernel_rfl, by kernel_rfl, by kernel_rfl⟩
theorem b4_6_3 : PB 4 6 3 := fun _ _ _ _ _ _ _ _ => ⟨by kernel_rfl, by kernel_rfl, by kernel_rfl, by kernel_rfl, by kernel_rfl, by kernel_rfl⟩
theorem b4_6_4 : PB 4 6 4 := fun _ _ _ _ _ _ _ _ => ⟨by kernel_rfl, by kernel_rfl, by kernel_rfl, by kernel_rfl, by kernel_rfl, by kernel_rfl⟩
theorem b4_6_5 : PB 4 6 5 := fun _ _ _ _ _ _ _ _ => ⟨by kernel_rfl, by kernel_rfl, by kernel_rfl, by kernel_rfl, by kernel_rfl, by kernel_rfl⟩
theorem b4_6_6 : PB 4 6 6 := fun _ _ _ _ _ _ _ _ => ⟨by kernel_rfl, by kernel_rfl, by kernel_rfl, by kernel_rfl, by kernel_rfl, by kernel_rfl⟩
theorem b4_6_7 : PB 4 6 7 := fun _ _ _ _ _ _ _ _ => ⟨by kernel_rfl, by kernel_rfl, by kernel_rfl, by kernel_rfl, by kernel_rfl, by kernel_rfl⟩
theorem b4_6_8 : PB 4 6 8 := fun _ _ _ _ _ _ _ _ => ⟨by kernel_rfl, by kernel_rfl, by kernel_rfl, by kernel_rfl, by kernel_rfl, by kernel_rfl⟩
theorem b4_6_9 : PB 4 6 9 := fun _ _ _ _ _ _ _ _ => ⟨by kernel_rfl, by kernel_rfl, by kernel_rfl, by kernel_rfl, by kernel_rfl, by kernel_rfl⟩
theorem b4_6_10 : PB 4 6 10 := fun _ _ _ _ _ _ _ _ => ⟨by kernel_rfl, by kernel_rfl, by kernel_rfl, by kernel_rfl, by kernel_rfl, by kernel_rfl⟩
theorem b4_6_11 : PB 4 6 11 := fun _ _ _ _ _ _ _ _ => ⟨by kernel_rfl, by kernel_rfl, by kernel_rfl, by kernel_rfl, by kernel_rfl, by kernel_rfl⟩
theorem b4_6_12 : PB 4 6 12 := fun _ _ _ _ _ _ _ _ => ⟨by kernel_rfl, by kernel_rfl, by kernel_rfl, by kernel_rfl, by kernel_rfl, by kernel_rfl⟩
theorem b4_6_13 : PB 4 6 13 := fun _ _ _ _ _ _ _ _ => ⟨by kernel_rfl, by kernel_rfl, by kernel_rfl, by kernel_rfl, by kernel_rfl, by kernel_rfl⟩
theorem b4_6 (y : Nat) (h : y < 14) : PB 4 6 y := match y, h with
  | 0, _ => b4_6_0
  | 1, _ => b4_6_1
  | 2, _ => b4_6_2
  | 3, _ => b4_6_3
  | 4, _ => b4_6_4
  | 5, _ => b4_6_5
  | 6, _ => b4_6_6
  | 7, _ => b4_6_7
  | 8, _ => b4_6_8
  | 9, _ => b4_6_9
  | 10, _ => b4_6_10
  | 11, _ => b4_6_11
  | 12, _ => b4_6_12
  | 13, _ => b4_6_13
  | m + 14, h => absurd h (by omega)
theorem a4_7 : PA 4 7 := fun _ _ _ _ _ _ _ _ _ => ⟨by kernel_rfl, by kernel_rfl, by kernel_rfl⟩
theorem b4_7_0 : PB 4 7 0 := fun _ _ _ _ _ _ _ _ => ⟨by kernel_rfl, by kernel_rfl, by kernel_rfl, by kernel_rfl, by kernel_rfl, by kernel_rfl⟩
theorem b4_7_1 : PB 4 7 1 := fun _ _ _ _ _ _ _ _ => ⟨by kernel_rfl, by kernel_rfl, by kernel_rfl, by kernel_rfl, by kernel_rfl, by kernel_rfl⟩
theorem b4_7_2 : PB 4 7 2 := fun _ _ _ _ _ _ _ _ => ⟨by kernel_rfl, by kernel_rfl, by kernel_rfl, by kernel_rfl, by kernel_rfl, by kernel_rfl⟩
theorem b4_7_3 : PB 4 7 3 := fun _ _ _ _ _ _ _ _ => ⟨by kernel_rfl, by kernel_rfl, by kernel_rfl, by kernel_rfl, by kernel_rfl, by kernel_rfl⟩
theorem b4_7_4 : PB 4 7 4 := fun _ _ _ _ _ _ _ _ => ⟨by kernel_rfl, by kernel_rfl, by kernel_rfl, by kernel_rfl, by kernel_rfl, by kernel_rfl⟩
theorem b4_7_5 : PB 4 7 5 := fun _ _ _ _ _ _ _ _ => ⟨by kernel_rfl, by kernel_rfl, by kernel_rfl, by kernel_rfl, by kernel_rfl, by kernel_rfl⟩
theorem b4_7_6 : PB 4 7 6 := fun _ _ _ _ _ _ _ _ => ⟨by kernel_rfl, by kernel_rfl, by kernel_rfl, by kernel_rfl, by kernel_rfl, by kernel_rfl⟩
theorem b4_7_7 : PB 4 7 7 := fun _ _ _ _ _ _ _ _ => ⟨by kernel_rfl, by kernel_rfl, by kernel_rfl, by kernel_rfl, by kernel_rfl, by kernel_rfl⟩
theorem b4_7_8 : PB 4 7 8 := fun _ _ _ _ _ _ _ _ => ⟨by kernel_rfl, by kernel_rfl, by kernel_rfl, by kernel_rfl, by kernel_rfl, by kernel_rfl⟩
theorem b4_7_9 : PB 4 7 9 := fun _ _ _ _ _ _ _ _ => ⟨by kernel_rfl, by kernel_rfl, by kernel_rfl, by kernel_rfl, by kernel_rfl, by kernel_rfl⟩
theorem b4_7_10 : PB 4 7 10 := fun _ _ _ _ _ _ _ _ => ⟨by kernel_rfl, by kernel_rfl, by kernel_rfl, by kernel_rfl, by kernel_rfl, by kernel_rfl⟩
theorem b4_7_11 : PB 4 7 11 := fun _ _ _ _ _ _ _ _ => ⟨by kernel_rfl, by kernel_rfl, by kernel_rfl, by kernel_rfl, by kernel_rfl, by kernel_rfl⟩
theorem b4_7_12 : PB 4 7 12 := fun _ _ _ _ _ _ _ _ => ⟨by kernel_rfl, by kernel_rfl, by kernel_rfl, by kernel_rfl, by kernel_rfl, by kernel_rfl⟩
theorem b4_7_13 : PB 4 7 13 := fun _ _ _ _ _ _ _ _ => ⟨by kernel_rfl, by kernel_rfl, by kernel_rfl, by kernel_rfl, by kernel_rfl, by kernel_rfl⟩
theorem b4_7 (y : Nat) (h : y < 14) : PB 4 7 y := match y, h with
  | 0, _ => b4_7_0
  | 1, _ => b4_7_1
  | 2, _ => b4_7_2
  | 3, _ => b4_7_3
  | 4, _ => b4_7_4
  | 5, _ => b4_7_5
  | 6, _ => b4_7_6
  | 7, _ => b4_7_7
  | 8, _ => b4_7_8
  | 9, _ => b4_7_9
  | 10, _ => b4_7_10
  | 11, _ => b4_7_11
  | 12, _ => b4_7_12
  | 13, _ => b4_7_13
  | m + 14, h => absurd h (by omega)
theorem a4_8 : PA 4 8 := fun _ _ _ _ _ _ _ _ _ => ⟨by kernel_rfl, by kernel_rfl, by kernel_rfl⟩
theorem b4_8_0 : PB 4 8 0 := fun _ _ _ _ _ _ _ _ => ⟨by kernel_rfl, by kernel_rfl, by kernel_rfl, by kernel_rfl, by kernel_rfl, by kernel_rfl⟩
theorem b4_8_1 : PB 4 8 1 := fun _ _ _ _ _ _ _ _ => ⟨by kernel_rfl, by kernel_rfl, by kernel_rfl, by kernel_rfl, by kernel_rfl, by kernel_rfl⟩
theorem b4_8_2 : PB 4 8 2 := fun _ _ _ _ _ _ _ _ => ⟨by kernel_rfl, by kernel_rfl, by kernel_rfl, by kernel_rfl, by kernel_rfl, by kernel_rfl⟩
theorem b4_8_3 : PB 4 8 3 := fun _ _ _ _ _ _ _ _ => ⟨by kernel_rfl, by kernel_rfl, by kernel_rfl, by kernel_rfl, by kernel_rfl, by kernel_rfl⟩
theorem b4_8_4 : PB 4 8 4 := fun _ _ _ _ _ _ _ _ => ⟨by kernel_rfl, by kernel_rfl, by kernel_rfl, by kernel_rfl, by kernel_rfl, by kernel_rfl⟩
theorem b4_8_5 : PB 4 8 5 := fun _ _ _ _ _ _ _ _ => ⟨by kernel_rfl, by kernel_rfl, by kernel_rfl, by kernel_rfl, by kernel_rfl, by kernel_rfl⟩
theorem b4_8_6 : PB 4 8 6 := fun _ _ _ _ _ _ _ _ => ⟨by kernel_rfl, by kernel_rfl, by kernel_rfl, by kernel_rfl, by kernel_rfl, by kernel_rfl⟩
theorem b4_8_7 : PB 4 8 7 := fun _ _ _ _ _ _ _ _ => ⟨by kernel_rfl, by kernel_rfl, by kernel_rfl, by kernel_rfl, by kernel_rfl, by kernel_rfl⟩
theorem b4_8_8 : PB 4 8 8 := fun _ _ _ _ _ _ _ _ => ⟨by kernel_rfl, by kernel_rfl, by kernel_rfl, by kernel_rfl, by kernel_rfl, by kernel_rfl⟩
theorem b4_8_9 : PB 4 8 9 := fun _ _ _ _ _ _ _ _ => ⟨by kernel_rfl, by kernel_rfl, by kernel_rfl, by kernel_rfl, by kernel_rfl, by kernel_rfl⟩
theorem b4_8_10 : PB 4 8 10 := fun _ _ _ _ _ _ _ _ => ⟨by kernel_rfl, by kernel_rfl, by kernel_rfl, by kernel_rfl, by kernel_rfl, by kernel_rfl⟩
theorem b4_8_11 : PB 4 8 11 := fun _ _ _ _ _ _ _ _ => ⟨by kernel_rfl, by kernel_rfl, by kernel_rfl, by kernel_rfl, by kernel_rfl, by kernel_rfl⟩
theorem b4_8_12 : PB 4 8 12 := fun _ _ _ _ _ _ _ _ => ⟨by kernel_rfl, by kernel_rfl, by kernel_rfl, by kernel_rfl, by kernel_rfl, by kernel_rfl⟩
theorem b4_8_13 : PB 4 8 13 := fun _ _ _ _ _ _ _ _ => ⟨by kernel_rfl, by kernel_rfl, by kernel_rfl, by kernel_rfl, by kernel_rfl, by kernel_rfl⟩
theorem b4_8 (y : Nat) (h : y < 14) : PB 4 8 y := match y, h with
  | 0, _ => b4_8_0
  | 1, _ => b4_8_1
  | 2, _ => b4_8_2
  | 3, _ => b4_8_3
  | 4, _ => b4_8_4
  | 5, _ => b4_8_5
  | 6, _ => b4_8_6
  | 7, _ => b4_8_7
  | 8, _ => b4_8_8
  | 9, _ => b4_8_9
  | 10, _ => b4_8_10
  | 11, _ => b4_8_11
  | 12, _ => b4_8_12
  | 13, _ => b4_8_13
  | m + 14, h => absurd h (by omega)
theorem a4_9 : PA 4 9 := fun _ _ _ _ _ _ _ _ _ => ⟨by kernel_rfl, by kernel_rfl, by kernel_rfl⟩
theorem b4_9_0 : PB 4 9 0 := fun _ _ _ _ _ _ _ _ => ⟨by kernel_rfl, by kernel_rfl, by kernel_rfl, by kernel_rfl, by kernel_rfl, by kernel_rfl⟩
theorem b4_9_1 : PB 4 9 1 := fun _ _ _ _ _ _ _ _ => ⟨by kernel_rfl, by kernel_rfl, by kernel_rfl, by kernel_rfl, by kernel_rfl, by kernel_rfl⟩
theorem b4_9_2 : PB 4 9 2 := fun _ _ _ _ _ _ _ _ => ⟨by kernel_rfl, by kernel_rfl, by kernel_rfl, by kernel_rfl, by kernel_rfl, by kernel_rfl⟩
theorem b4_9_3 : PB 4 9 3 := fun _ _ _ _ _ _ _ _ => ⟨by kernel_rfl, by kernel_rfl, by kernel_rfl, by kernel_rfl, by kernel_rfl, by kernel_rfl⟩
theorem b4_9_4 : PB 4 9 4 := fun _ _ _ _ _ _ _ _ => ⟨by kernel_rfl, by kernel_rfl, by kernel_rfl, by kernel_rfl, by kernel_rfl, by kernel_rfl⟩
theorem b4_9_5 : PB 4 9 5 := fun _ _ _ _ _ _ _ _ => ⟨by kernel_rfl, by kernel_rfl, by kernel_rfl, by kernel_rfl, by kernel_rfl, by kernel_rfl⟩
theorem b4_9_6 : PB 4 9 6 := fun _ _ _ _ _ _ _ _ => ⟨by kernel_rfl, by kernel_rfl, by kernel_rfl, by kernel_rfl, by kernel_rfl, by kernel_rfl⟩
theorem b4_9_7 : PB 4 9 7 := fun _ _ _ _ _ _ _ _ => ⟨by kernel_rfl, by kernel_rfl, by kernel_rfl, by kernel_rfl, by kernel_rfl, by kernel_rfl⟩
theorem b4_9_8 : PB 4 9 8 := fun _ _ _ _ _ _ _ _ => ⟨by kernel_rfl, by kernel_rfl, by kernel_rfl, by kernel_rfl, by kernel_rfl, by kernel_rfl⟩
theorem b4_9_9 : PB 4 9 9 := fun _ _ _ _ _ _ _ _ => ⟨by kernel_rfl, by kernel_rfl, by kernel_rfl, by kernel_rfl, by kernel_rfl, by kernel_rfl⟩
theorem b4_9_10 : PB 4 9 10 := fun _ _ _ _ _ _ _ _ => ⟨by kernel_rfl, by kernel_rfl, by kernel_rfl, by kernel_rfl, by kernel_rfl, by kernel_rfl⟩
theorem b4_9_11 : PB 4 9 11 := fun _ _ _ _ _ _ _ _ => ⟨by kernel_rfl, by kernel_rfl, by kernel_rfl, by kernel_rfl, by kernel_rfl, by kernel_rfl⟩
theorem b4_9_12 : PB 4 9 12 := fun _ _ _ _ _ _ _ _ => ⟨by kernel_rfl, by kernel_rfl, by kernel_rfl, by kernel_rfl, by kernel_rfl, by kernel_rfl⟩
theorem b4_9_13 : PB 4 9 13 := fun _ _ _ _ _ _ _ _ => ⟨by kernel_rfl, by kernel_rfl, by kernel_rfl, by kernel_rfl, by kernel_rfl, by kernel_rfl⟩
theorem b4_9 (y : Nat) (h : y < 14) : PB 4 9 y := match y, h with
  | 0, _ => b4_9_0
  | 1, _ => b4_9_1
  | 2, _ => b4_9_2
  | 3, _ => b4_9_3
  | 4, _ => b4_9_4
  | 5, _ => b4_9_5
  | 6, _ => b4_9_6
  | 7, _ => b4_9_7
  | 8, _ => b4_9_8
  | 9, _ => b4_9_9
  | 10, _ => b4_9_10
  | 11, _ => b4_9_11
  | 12, _ => b4_9_12
  | 13, _ => b4_9_13
  | m + 14, h => absurd h (by omega)
theorem a4_10 : PA 4 10 := fun _ _ _ _ _ _ _ _ _ => ⟨by kernel_rfl, by kernel_rfl, by kernel_rfl⟩
theorem b4_10_0 : PB 4 10 0 := fun _ _ _ _ _ _ _ _ => ⟨by kernel_rfl, by kernel_rfl, by kernel_rfl, by kernel_rfl, by kernel_rfl, by kernel_rfl⟩
theorem b4_10_1 : PB 4 10 1 := fun _ _ _ _ _ _ _ _ => ⟨by kernel_rfl, by kernel_rfl, by kernel_rfl, by kernel_rfl, by kernel_rfl, by kernel_rfl⟩
theorem b4_10_2 : PB 4 10 2 := fun _ _ _ _ _ _ _ _ => ⟨by kernel_rfl, by kernel_rfl, by kernel_rfl, by kernel_rfl, by kernel_rfl, by kernel_rfl⟩
theorem b4_10_3 : PB 4 10 3 := fun _ _ _ _ _ _ _ _ => ⟨by kernel_rfl, by kernel_rfl, by kernel_rfl, by kernel_rfl, by kernel_rfl, by kernel_rfl⟩
theorem b4_10_4 : PB 4 10 4 := fun _ _ _ _ _ _ _ _ => ⟨by kernel_rfl, by kernel_rfl, by kernel_rfl, by kernel_rfl, by kernel_rfl, by kernel_rfl⟩
theorem b4_10_5 : PB 4 10 5 := fun _ _ _ _ _ _ _ _ => ⟨by kernel_rfl, by kernel_rfl, by kernel_rfl, by kernel_rfl, by kernel_rfl, by kernel_rfl⟩
theorem b4_10_6 : PB 4 10 6 := fun _ _ _ _ _ _ _ _ => ⟨by kernel_rfl, by kernel_rfl, by kernel_rfl, by kernel_rfl, by kernel_rfl, by kernel_rfl⟩
theorem b4_10_7 : PB 4 10 7 := fun _ _ _ _ _ _ _ _ => ⟨by kernel_rfl, by kernel_rfl, by kernel_rfl, by kernel_rfl, by kernel_rfl, by kernel_rfl⟩
theorem b4_10_8 : PB 4 10 8 := fun _ _ _ _ _ _ _ _ => ⟨by kernel_rfl, by kernel_rfl, by kernel_rfl, by kernel_rfl, by kernel_rfl, by kernel_rfl⟩
theorem b4_10_9 : PB 4 10 9 := fun _ _ _ _ _ _ _ _ => ⟨by kernel_rfl, by kernel_rfl, by kernel_rfl, by kernel_rfl, by kernel_rfl, by kernel_rfl⟩
theorem b4_10_10 : PB 4 10 10 := fun _ _ _ _ _ _ _ _ => ⟨by kernel_rfl, by kernel_rfl, by kernel_rfl, by kernel_rfl, by kernel_rfl, by kernel_rfl⟩
theorem b4_10_11 : PB 4 10 11 := fun _ _ _ _ _ _ _ _ => ⟨by kernel_rfl, by kernel_rfl, by kernel_rfl, by kernel_rfl, by kernel_rfl, by kernel_rfl⟩
theorem b4_10_12 : PB 4 10 12 := fun _ _ _ _ _ _ _ _ => ⟨by kernel_rfl, by kernel_rfl, by kernel_rfl, by kernel_rfl, by kernel_rfl, by kernel_rfl⟩
theorem b4_10_13 : PB 4 10 13 := fun _ _ _ _ _ _ _ _ => ⟨by kernel_rfl, by kernel_rfl, by kernel_rfl, by kernel_rfl, by kernel_rfl, by kernel_rfl⟩
theorem b4_10 (y : Nat) (h : y < 14) : PB 4 10 y := match y, h with
  | 0, _ => b4_10_0
  | 1, _ => b4_10_1
  | 2, _ => b4_10_2
  | 3, _ => b4_10_3
  | 4, _ => b4_10_4
  | 5, _ => b4_10_5
  | 6, _ => b4_10_6
  | 7, _ => b4_10_7
  | 8, _ => b4_10_8
  | 9, _ => b4_10_9
  | 10, _ => b4_10_10
  | 11, _ => b4_10_11
  | 12, _ => b4_10_12
  | 13, _ => b4_10_13
  | m + 14, h => absurd h (by omega)
theorem a4_11 : PA 4 11 := fun _ _ _ _ _ _ _ _ _ => ⟨by kernel_rfl, by kernel_rfl, by kernel_rfl⟩
theorem b4_11_0 : PB 4 11 0 := fun _ _ _ _ _ _ _ _ => ⟨by kernel_rfl, by kernel_rfl, by kernel_rfl, by kernel_rfl, by kernel_rfl, by kernel_rfl⟩
theorem b4_11_1 : PB 4 11 1 := fun _ _ _ _ _ _ _ _ => ⟨by kernel_rfl, by kernel_rfl, by kernel_rfl, by kernel_rfl, by kernel_rfl, by kernel_rfl⟩
theorem b4_11_2 : PB 4 11 2 := fun _ _ _ _ _ _ _ _ => ⟨by kernel_rfl, by kernel_rfl, by kernel_rfl, by kernel_rfl, by kernel_rfl, by kernel_rfl⟩
theorem b4_11_3 : PB 4 11 3 := fun _ _ _ _ _ _ _ _ => ⟨by kernel_rfl, by kernel_rfl, by kernel_rfl, by kernel_rfl, by kernel_rfl, by kernel_rfl⟩
theorem b4_11_4 : PB 4 11 4 := fun _ _ _ _ _ _ _ _ => ⟨by kernel_rfl, by kernel_rfl, by kernel_rfl, by kernel_rfl, by kernel_rfl, by kernel_rfl⟩
theorem b4_11_5 : PB 4 11 5 := fun _ _ _ _ _ _ _ _ => ⟨by kernel_rfl, by kernel_rfl, by kernel_rfl, by kernel_rfl, by kernel_rfl, by kernel_rfl⟩
theorem b4_11_6 : PB 4 11 6 := fun _ _ _ _ _ _ _ _ => ⟨by kernel_rfl, by kernel_rfl, by kernel_rfl, by kernel_rfl, by kernel_rfl, by kernel_rfl⟩
theorem b4_11_7 : PB 4 11 7 := fun _ _ _ _ _ _ _ _ => ⟨by kernel_rfl, by kernel_rfl, by kernel_rfl, by kernel_rfl, by kernel_rfl, by kernel_rfl⟩
theorem b4_11_8 : PB 4 11 8 := fun _ _ _ _ _ _ _ _ => ⟨by kernel_rfl, by kernel_rfl, by kernel_rfl, by kernel_rfl, by kernel_rfl, by kernel_rfl⟩
theorem b4_11_9 : PB 4 11 9 := fun _ _ _ _ _ _ _ _ => ⟨by kernel_rfl, by kernel_rfl, by kernel_rfl, by kernel_rfl, by kernel_rfl, by kernel_rfl⟩
theorem b4_11_10 : PB 4 11 10 := fun _ _ _ _ _ _ _ _ => ⟨by kernel_rfl, by kernel_rfl, by kernel_rfl, by kernel_rfl, by kernel_rfl, by kernel_rfl⟩
theorem b4_11_11 : PB 4 11 11 := fun _ _ _ _ _ _ _ _ => ⟨by kernel_rfl, by kernel_rfl, by kernel_rfl, by kernel_rfl, by kernel_rfl, by kernel_rfl⟩
theorem b4_11_12 : PB 4 11 12 := fun _ _ _ _ _ _ _ _ => ⟨by kernel_rfl, by kernel_rfl, by kernel_rfl, by kernel_rfl, by kernel_rfl, by kernel_rfl⟩
theorem b4_11_13 : PB 4 11 13 := fun _ _ _ _ _ _ _ _ => ⟨by kernel_rfl, by kernel_rfl, by kernel_rfl, by kernel_rfl, by kernel_rfl, by kernel_rfl⟩
theorem b4_11 (y : Nat) (h : y < 14) : PB 4 11 y := match y, h with
  | 0, _ => b4_11_0
  | 1, _ => b4_11_1
  | 2, _ => b4_11_2
  | 3, _ => b4_11_3
  | 4, _ => b4_11_4
  | 5, _ => b4_11_5
  | 6, _ => b4_11_6
  | 7, _ => b4_11_7
  | 8, _ => b4_11_8
  | 9, _ => b4_11_9
  | 10, _ => b4_11_10
  | 11, _ => b4_11_11
  | 12, _ => b4_11_12
  | 13, _ => b4_11_13
  | m + 14, h => absurd h (by omega)
theorem a4_12 : PA 4 12 := fun _ _ _ _ _ _ _ _ _ => ⟨by kernel_rfl, by kernel_rfl, by kernel_rfl⟩
theorem b4_12_0 : PB 4 12 0 := fun _ _ _ _ _ _ _ _ => ⟨by kernel_rfl, by kernel_rfl, by kernel_rfl, by kernel_rfl, by kernel_rfl, by kernel_rfl⟩
theorem b4_12_1 : PB 4 12 1 := fun _ _ _ _ _ _ _ _ => ⟨by kernel_rfl, by kernel_rfl, by kernel_rfl, by kernel_rfl, by kernel_rfl, by kernel_rfl⟩
theorem b4_12_2 : PB 4 12 2 := fun _ _ _ _ _ _ _ _ => ⟨by kernel_rfl, by kernel_rfl, by kernel_rfl, by kernel_rfl, by kernel_rfl, by kernel_rfl⟩
theorem b4_12_3 : PB 4 12 3 := fun _ _ _ _ _ _ _ _ => ⟨by kernel_rfl, by kernel_rfl, by kernel_rfl, by kernel_rfl, by kernel_rfl, by kernel_rfl⟩
theorem b4_12_4 : PB 4 12 4 := fun _ _ _ _ _ _ _ _ => ⟨by kernel_rfl, by kernel_rfl, by kernel_rfl, by kernel_rfl, by kernel_rfl, by kernel_rfl⟩
theorem b4_12_5 : PB 4 12 5 := fun _ _ _ _ _ _ _ _ => ⟨by kernel_rfl, by kernel_rfl, by kernel_rfl, by kernel_rfl, by kernel_rfl, by kernel_rfl⟩
theorem b4_12_6 : PB 4 12 6 := fun _ _ _ _ _ _ _ _ => ⟨by kernel_rfl, by kernel_rfl, by kernel_rfl, by kernel_rfl, by kernel_rfl, by kernel_rfl⟩
theorem b4_12_7 : PB 4 12 7 := fun _ _ _ _ _ _ _ _ => ⟨by kernel_rfl, by kernel_rfl, by kernel_rfl, by kernel_rfl, by kernel_rfl, by kernel_rfl⟩
theorem b4_12_8 : PB 4 12 8 := fun _ _ _ _ _ _ _ _ => ⟨by kernel_rfl, by kernel_rfl, by kernel_rfl, by kernel_rfl, by kernel_rfl, by kernel_rfl⟩
theorem b4_12_9 : PB 4 12 9 := fun _ _ _ _ _ _ _ _ => ⟨by kernel_rfl, by kernel_rfl, by kernel_rfl, by kernel_rfl, by kernel_rfl, by kernel_rfl⟩
theorem b4_12_10 : PB 4 12 10 := fun _ _ _ _ _ _ _ _ => ⟨by kernel_rfl, by kernel_rfl, by kernel_rfl, by kernel_rfl, by kernel_rfl, by kernel_rfl⟩
theorem b4_12_11 : PB 4 12 11 := fun _ _ _ _ _ _ _ _ => ⟨by kernel_rfl, by kernel_rfl, by kernel_rfl, by kernel_rfl, by kernel_rfl, by kernel_rfl⟩
theorem b4_12_12 : PB 4 12 12 := fun _ _ _ _ _ _ _ _ => ⟨by kernel_rfl, by kernel_rfl, by kernel_rfl, by kernel_rfl, by kernel_rfl, by kernel_rfl⟩
theorem b4_12_13 : PB 4 12 13 := fun _ _ _ _ _ _ _ _ => ⟨by kernel_rfl, by kernel_rfl, by kernel_rfl, by kernel_rfl, by kernel_rfl, by kernel_rfl⟩
theorem b4_12 (y : Nat) (h : y < 14) : PB 4 12 y := match y, h with
  | 0, _ => b4_12_0
  | 1, _ => b4_12_1
  | 2, _ => b4_12_2
  | 3, _ => b4_12_3
  | 4, _ => b4_12_4
  | 5, _ => b4_12_5
  | 6, _ => b4_12_6
  | 7, _ => b4_12_7
  | 8, _ => b4_12_8
  | 9, _ => b4_12_9
  | 10, _ => b4_12_10
  | 11, _ => b4_12_11
  | 12, _ => b4_12_12
  | 13, _ => b4_12_13
  | m + 14, h => absurd h (by omega)
theorem a4_13 : PA 4 13 := fun _ _ _ _ _ _ _ _ _ => ⟨by kernel_rfl, by kernel_rfl, by kernel_rfl⟩
theorem b4_13_0 : PB 4 13 0 := fun _ _ _ _ _ _ _ _ => ⟨by kernel_rfl, by kernel_rfl, by kernel_rfl, by kernel_rfl, by kernel_rfl, by kernel_rfl⟩
theorem b4_13_1 : PB 4 13 1 := fun _ _ _ _ _ _ _ _ => ⟨by kernel_rfl, by kernel_rfl, by kernel_rfl, by kernel_rfl, by kernel_rfl, by kernel_rfl⟩
theorem b4_13_2 : PB 4 13 2 := fun _ _ _ _ _ _ _ _ => ⟨by kernel_rfl, by kernel_rfl, by kernel_rfl, by kernel_rfl, by kernel_rfl, by kernel_rfl⟩
theorem b4_13_3 : PB 4 13 3 := fun _ _ _ _ _ _ _ _ => ⟨by kernel_rfl, by kernel_rfl, by kernel_rfl, by kernel_rfl, by kernel_rfl, by kernel_rfl⟩
theorem b4_13_4 : PB 4 13 4 := fun _ _ _ _ _ _ _ _ => ⟨by kernel_rfl, by kernel_rfl, by kernel_rfl, by kernel_rfl, by kernel_rfl, by kernel_rfl⟩
theorem b4_13_5 : PB 4 13 5 := fun _ _ _ _ _ _ _ _ => ⟨by kernel_rfl, by kernel_rfl, by kernel_rfl, by kernel_rfl, by kernel_rfl, by kernel_rfl⟩
theorem b4_13_6 : PB 4 13 6 := fun _ _ _ _ _ _ _ _ => ⟨by kernel_rfl, by kernel_rfl, by kernel_rfl, by kernel_rfl, by kernel_rfl, by kernel_rfl⟩
theorem b4_13_7 : PB 4 13 7 := fun _ _ _ _ _ _ _ _ => ⟨by kernel_rfl, by kernel_rfl, by kernel_rfl, by kernel_rfl, by kernel_rfl, by kernel_rfl⟩
theorem b4_13_8 : PB 4 13 8 := fun _ _ _ _ _ _ _ _ => ⟨by kernel_rfl, by kernel_rfl, by kernel_rfl, by kernel_rfl, by kernel_rfl, by kernel_rfl⟩
theorem b4_13_9 : PB 4 13 9 := fun _ _ _ _ _ _ _ _ => ⟨by kernel_rfl, by kernel_rfl, by kernel_rfl, by kernel_rfl, by kernel_rfl, by kernel_rfl⟩
theorem b4_13_10 : PB 4 13 10 := fun _ _ _ _ _ _ _ _ => ⟨by kernel_rfl, by kernel_rfl, by kernel_rfl, by kernel_rfl, by kernel_rfl, by kernel_rfl⟩
theorem b4_13_11 : PB 4 13 11 := fun _ _ _ _ _ _ _ _ => ⟨by kernel_rfl, by kernel_rfl, by kernel_rfl, by kernel_rfl, by kernel_rfl, by kernel_rfl⟩
theorem b4_13_12 : PB 4 13 12 := fun _ _ _ _ _ _ _ _ => ⟨by kernel_rfl, by kernel_rfl, by kernel_rfl, by kernel_rfl, by kernel_rfl, by kernel_rfl⟩
theorem b4_13_13 : PB 4 13 13 := fun _ _ _ _ _ _ _ _ => ⟨by kernel_rfl, by kernel_rfl, by kernel_rfl, by kernel_rfl, by kernel_rfl, by kernel_rfl⟩
theorem b4_13 (y : Nat) (h : y < 14) : PB 4 13 y := match y, h with
  | 0, _ => b4_13_0
  | 1, _ => b4_13_1
  | 2, _ => b4_13_2
  | 3, _ => b4_13_3
  | 4, _ => b4_13_4
  | 5, _ => b4_13_5
  | 6, _ => b4_13_6
  | 7, _ => b4_13_7
  | 8, _ => b4_13_8
  | 9, _ => b4_13_9
  | 10, _ => b4_13_10
  | 11, _ => b4_13_11
  | 12, _ => b4_13_12
  | 13, _ => b4_13_13
  | m + 14, h => absurd h (by omega)
theorem a4 (x : Nat) (h : x < 14) : PA 4 x := match x, h with
  | 0, _ => a4_0
  | 1, _ => a4_1
  | 2, _ => a4_2
  | 3, _ => a4_3
  | 4, _ => a4_4
  | 5, _ => a4_5
  | 6, _ => a4_6
  | 7, _ => a4_7
  | 8, _ => a4_8
  | 9, _ => a4_9
  | 10, _ => a4_10
  | 11, _ => a4_11
  | 12, _ => a4_12
  | 13, _ => a4_13
  | m + 14, h => absurd h (by omega)
theorem b4 (x y : Nat) (h : x < 14) (h2 : y < 14) : PB 4 x y := match x, h with
  | 0, _ => b4_0 y h2
  | 1, _ => b4_1 y h2
  | 2, _ => b4_2 y h2
  | 3, _ => b4_3 y h2
  | 4, _ => b4_4 y h2
  | 5, _ => b4_5 y h2
  | 6, _ => b4_6 y h2
  | 7, _ => b4_7 y h2
  | 8, _ => b4_8 y h2
  | 9, _ => b4_9 y h2
  | 10, _ => b4_10 y h2
  | 11, _ => b4_11 y h2
  | 12, _ => b4_12 y h2
  | 13, _ => b4_13 y h2
  | m + 14, h => absurd h (by omega)
theorem r4_0_0_0_0 : PR 4 [0, 0, 0, 0] := fun _ _ _ _ _ _ _ _ _ => by kernel_rfl
theorem r4_0_0_0_1 : PR 4 [0, 0, 0, 1] := fun _ _ _ _ _ _ _ _ _ => by kernel_rfl
theorem r4_0_0_0_2 : PR 4 [0, 0, 0, 2] := fun _ _ _ _ _ _ _ _ _ => by kernel_rfl
theorem r4_0_0_0_3 : PR 4 [0, 0, 0, 3] := fun _ _ _ _ _ _ _ _ _ => by kernel_rfl
theorem r4_0_0_1_0 : PR 4 [0, 0, 1, 0] := fun _ _ _ _ _ _ _ _ _ => by kernel_rfl
theorem r4_0_0_1_1 : PR 4 [0, 0, 1, 1] := fun _ _ _ _ _ _ _ _ _ => by kernel_rfl
theorem r4_0_0_1_2 : PR 4 [0, 0, 1, 2] := fun _ _ _ _ _ _ _ _ _ => by kernel_rfl
theorem r4_0_0_1_3 : PR 4 [0, 0, 1, 3] := fun _ _ _ _ _ _ _ _ _ => by kernel_rfl
theorem r4_0_0_2_0 : PR 4 [0, 0, 2, 0] := fun _ _ _ _ _ _ _ _ _ => by kernel_rfl
theorem r4_0_0_2_1 : PR 4 [0, 0, 2, 1] := fun _ _ _ _ _ _ _ _ _ => by kernel_rfl
theorem r4_0_0_2_2 : PR 4 [0, 0, 2, 2] := fun _ _ _ _ _ _ _ _ _ => by kernel_rfl
theorem r4_0_0_2_3 : PR 4 [0, 0, 2, 3] := fun _ _ _ _ _ _ _ _ _ => by kernel_rfl
theorem r4_0_0_3_0 : PR 4 [0, 0, 3, 0] := fun _ _ _ _ _ _ _ _ _ => by kernel_rfl
theorem r4_0_0_3_1 : PR 4 [0, 0, 3, 1] := fun _ _ _ _ _ _ _ _ _ => by kernel_rfl
theorem r4_0_0_3_2 : PR 4 [0, 0, 3, 2] := fun _ _ _ _ _ _ _ _ _ => by kernel_rfl
theorem r4_0_0_3_3 : PR 4 [0, 0, 3, 3] := fun _ _ _ _ _ _ _ _ _ => by kernel_rfl
theorem r4_0_1_0_0 : PR 4 [0, 1, 0, 0] := fun _ _ _ _ _ _ _ _ _ => by kernel_rfl
theorem r4_0_1_0_1 : PR 4 [0, 1, 0, 1] := fun _ _ _ _ _ _ _ _ _ => by kernel_rfl
theorem r4_0_1_0_2 : PR 4 [0, 1, 0, 2] := fun _ _ _ _ _ _ _ _ _ => by kernel_rfl
theorem r4_0_1_0_3 : PR 4 [0, 1, 0, 3] := fun _ _ _ _ _ _ _ _ _ => by kernel_rfl
theorem r4_0_1_1_0 : PR 4 [0, 1, 1, 0] := fun _ _ _ _ _ _ _ _ _ => by kernel_rfl
theorem r4_0_1_1_1 : PR 4 [0, 1, 1, 1] := fun _ _ _ _ _ _ _ _ _ => by kernel_rfl
theorem r4_0_1_1_2 : PR 4 [0, 1, 1, 2] := fun _ _ _ _ _ _ _ _ _ => by kernel_rfl
theorem r4_0_1_1_3 : PR 4 [0, 1, 1, 3] := fun _ _ _ _ _ _ _ _ _ => by kernel_rfl
theorem r4_0_1_2_0 : PR 4 [0, 1, 2, 0] := fun _ _ _ _ _ _ _ _ _ => by kernel_rfl
theorem r4_0_1_2_1 : PR 4 [0, 1, 2, 1] := fun _ _ _ _ _ _ _ _ _ => by kernel_rfl
theorem r4_0_1_2_2 : PR 4 [0, 1, 2, 2] := fun _ _ _ _ _ _ _ _ _ => by kernel_rfl
theorem r4_0_1_2_3 : PR 4 [0, 1, 2, 3] := fun _ _ _ _ _ _ _ _ _ => by kernel_rfl
theorem r4_0_1_3_0 : PR 4 [0, 1, 3, 0] := fun _ _ _ _ _ _ _ _ _ => by kernel_rfl
theorem r4_0_1_3_1 : PR 4 [0, 1, 3, 1] := fun _ _ _ _ _ _ _ _ _ => by kernel_rfl
theorem r4_0_1_3_2 : PR 4 [0, 1, 3, 2] := fun _ _ _ _ _ _ _ _ _ => by kernel_rfl
theorem r4_0_1_3_3 : PR 4 [0, 1, 3, 3] := fun _ _ _ _ _ _ _ _ _ => by kernel_rfl
theorem r4_0_2_0_0 : PR 4 [0, 2, 0, 0] := fun _ _ _ _ _ _ _ _ _ => by kernel_rfl
theorem r4_0_2_0_1 : PR 4 [0, 2, 0, 1] := fun _ _ _ _ _ _ _ _ _ => by kernel_rfl
theorem r4_0_2_0_2 : PR 4 [0, 2, 0, 2] := fun _ _ _ _ _ _ _ _ _ => by kernel_rfl
theorem r4_0_2_0_3 : PR 4 [0, 2, 0, 3] := fun _ _ _ _ _ _ _ _ _ => by kernel_rfl
theorem r4_0_2_1_0 : PR 4 [0, 2, 1, 0] := fun _ _ _ _ _ _ _ _ _ => by kernel_rfl
theorem r4_0_2_1_1 : PR 4 [0, 2, 1, 1] := fun _ _ _ _ _ _ _ _ _ => by kernel_rfl
theorem r4_0_2_1_2 : PR 4 [0, 2, 1, 2] := fun _ _ _ _ _ _ _ _ _ => by kernel_rfl
theorem r4_0_2_1_3 : PR 4 [0, 2, 1, 3] := fun _ _ _ _ _ _ _ _ _ => by kernel_rfl
theorem r4_0_2_2_0 : PR 4 [0, 2, 2, 0] := fun _ _ _ _ _ _ _ _ _ => by kernel_rfl
theorem r4_0_2_2_1 : PR 4 [0, 2, 2, 1] := fun _ _ _ _ _ _ _ _ _ => by kernel_rfl
theorem r4_0_2_2_2 : PR 4 [0, 2, 2, 2] := fun _ _ _ _ _ _ _ _ _ => by kernel_rfl
theorem r4_0_2_2_3 : PR 4 [0, 2, 2, 3] := fun _ _ _ _ _ _ _ _ _ => by kernel_rfl
theorem r4_0_2_3_0 : PR 4 [0, 2, 3, 0] := fun _ _ _ _ _ _ _ _ _ => by kernel_rfl
theorem r4_0_2_3_1 : PR 4 [0, 2, 3, 1] := fun _ _ _ _ _ _ _ _ _ => by kernel_rfl
theorem r4_0_2_3_2 : PR 4 [0, 2, 3, 2] := fun _ _ _ _ _ _ _ _ _ => by kernel_rfl
theorem r4_0_2_3_3 : PR 4 [0, 2, 3, 3] := fun _ _ _ _ _ _ _ _ _ => by kernel_rfl
theorem r4_0_3_0_0 : PR 4 [0, 3, 0, 0] := fun _ _ _ _ _ _ _ _ _ => by kernel_rfl
theorem r4_0_3_0_1 : PR 4 [0, 3, 0, 1] := fun _ _ _ _ _ _ _ _ _ => by kernel_rfl
theorem r4_0_3_0_2 : PR 4 [0, 3, 0, 2] := fun _ _ _ _ _ _ _ _ _ => by kernel_rfl
theorem r4_0_3_0_3 : PR 4 [0, 3, 0, 3] := fun _ _ _ _ _ _ _ _ _ => by kernel_rfl
theorem r4_0_3_1_0 : PR 4 [0, 3, 1, 0] := fun _ _ _ _ _ _ _ _ _ => by kernel_rfl
theorem r4_0_3_1_1 : PR 4 [0, 3, 1, 1] := fun _ _ _ _ _ _ _ _ _ => by kernel_rfl
theorem r4_0_3_1_2 : PR 4 [0, 3, 1, 2] := fun _ _ _ _ _ _ _ _ _ => by kernel_rfl
theorem r4_0_3_1_3 : PR 4 [0, 3, 1, 3] := fun _ _ _ _ _ _ _ _ _ => by kernel_rfl
theorem r4_0_3_2_0 : PR 4 [0, 3, 2, 0] := fun _ _ _ _ _ _ _ _ _ => by kernel_rfl
theorem r4_0_3_2_1 : PR 4 [0, 3, 2, 1] := fun _ _ _ _ _ _ _ _ _ => by kernel_rfl
theorem r4_0_3_2_2 : PR 4 [0, 3, 2, 2] := fun _ _ _ _ _ _ _ _ _ => by kernel_rfl
theorem r4_0_3_2_3 : PR 4 [0, 3, 2, 3] := fun _ _ _ _ _ _ _ _ _ => by kernel_rfl
theorem r4_0_3_3_0 : PR 4 [0, 3, 3, 0] := fun _ _ _ _ _ _ _ _ _ => by kernel_rfl
theorem r4_0_3_3_1 : PR 4 [0, 3, 3, 1] := fun _ _ _ _ _ _ _ _ _ => by kernel_rfl
theorem r4_0_3_3_2 : PR 4 [0, 3, 3, 2] := fun _ _ _ _ _ _ _ _ _ => by kernel_rfl
theorem r4_0_3_3_3 : PR 4 [0, 3, 3, 3] := fun _ _ _ _ _ _ _ _ _ => by kernel_rfl
theorem r4_1_0_0_0 : PR 4 [1, 0, 0, 0] := fun _ _ _ _ _ _ _ _ _ => by kernel_rfl
theorem r4_1_0_0_1 : PR 4 [1, 0, 0, 1] := fun _ _ _ _ _ _ _ _ _ => by kernel_rfl
theorem r4_1_0_0_2 : PR 4 [1, 0, 0, 2] := fun _ _ _ _ _ _ _ _ _ => by kernel_rfl
theorem r4_1_0_0_3 : PR 4 [1, 0, 0, 3] := fun _ _ _ _ _ _ _ _ _ => by kernel_rfl
theorem r4_1_0_1_0 : PR 4 [1, 0, 1, 0] := fun _ _ _ _ _ _ _ _ _ => by kernel_rfl
theorem r4_1_0_1_1 : PR 4 [1, 0, 1, 1] := fun _ _ _ _ _ _ _ _ _ => by kernel_rfl
theorem r4_1_0_1_2 : PR 4 [1, 0, 1, 2] := fun _ _ _ _ _ _ _ _ _ => by kernel_rfl
theorem r4_1_0_1_3 : PR 4 [1, 0, 1, 3] := fun _ _ _ _ _ _ _ _ _ => by kernel_rfl
theorem r4_1_0_2_0 : PR 4 [1, 0, 2, 0] := fun _ _ _ _ _ _ _ _ _ => by kernel_rfl
theorem r4_1_0_2_1 : PR 4 [1, 0, 2, 1] := fun _ _ _ _ _ _ _ _ _ => by kernel_rfl
theorem r4_1_0_2_2 : PR 4 [1, 0, 2, 2] := fun _ _ _ _ _ _ _ _ _ => by kernel_rfl
theorem r4_1_0_2_3 : PR 4 [1, 0, 2, 3] := fun _ _ _ _ _ _ _ _ _ => by kernel_rfl
theorem r4_1_0_3_0 : PR 4 [1, 0, 3, 0] := fun _ _ _ _ _ _ _ _ _ => by kernel_rfl
theorem r4_1_0_3_1 : PR 4 [1, 0, 3, 1] := fun _ _ _ _ _ _ _ _ _ => by kernel_rfl
theorem r4_1_0_3_2 : PR 4 [1, 0, 3, 2] := fun _ _ _ _ _ _ _ _ _ => by kernel_rfl
theorem r4_1_0_3_3 : PR 4 [1, 0, 3, 3] := fun _ _ _ _ _ _ _ _ _ => by kernel_rfl
theorem r4_1_1_0_0 : PR 4 [1, 1, 0, 0] := fun _ _ _ _ _ _ _ _ _ => by kernel_rfl
theorem r4_1_1_0_1 : PR 4 [1, 1, 0, 1] := fun _ _ _ _ _ _ _ _ _ => by kernel_rfl
theorem r4_1_1_0_2 : PR 4 [1, 1, 0, 2] := fun _ _ _ _ _ _ _ _ _ => by kernel_rfl
theorem r4_1_1_0_3 : PR 4 [1, 1, 0, 3] := fun _ _ _ _ _ _ _ _ _ => by kernel_rfl
theorem r4_1_1_1_0 : PR 4 [1, 1, 1, 0] := fun _ _ _ _ _ _ _ _ _ => by kernel_rfl
theorem r4_1_1_1_1 : PR 4 [1, 1, 1, 1] := fun _ _ _ _ _ _ _ _ _ => by kernel_rfl
theorem r4_1_1_1_2 : PR 4 [1, 1, 1, 2] := fun _ _ _ _ _ _ _ _ _ => by kernel_rfl
theorem r4_1_1_1_3 : PR 4 [1, 1, 1, 3] := fun _ _ _ _ _ _ _ _ _ => by kernel_rfl
theorem r4_1_1_2_0 : PR 4 [1, 1, 2, 0] := fun _ _ _ _ _ _ _ _ _ => by kernel_rfl
theorem r4_1_1_2_1 : PR 4 [1, 1, 2, 1] := fun _ _ _ _ _ _ _ _ _ => by kernel_rfl
theorem r4_1_1_2_2 : PR 4 [1, 1, 2, 2] := fun _ _ _ _ _ _ _ _ _ => by kernel_rfl
theorem r4_1_1_2_3 : PR 4 [1, 1, 2, 3] := fun _ _ _ _ _ _ _ _ _ => by kernel_rfl
theorem r4_1_1_3_0 : PR 4 [1, 1, 3, 0] := fun _ _ _ _ _ _ _ _ _ => by kernel_rfl
theorem r4_1_1_3_1 : PR 4 [1, 1, 3, 1] := fun _ _ _ _ _ _ _ _ _ => by kernel_rfl
theorem r4_1_1_3_2 : PR 4 [1, 1, 3, 2] := fun _ _ _ _ _ _ _ _ _ => by kernel_rfl
theorem r4_1_1_3_3 : PR 4 [1, 1, 3, 3] := fun _ _ _ _ _ _ _ _ _ => by kernel_rfl
theorem r4_1_2_0_0 : PR 4 [1, 2, 0, 0] := fun _ _ _ _ _ _ _ _ _ => by kernel_rfl
theorem r4_1_2_0_1 : PR 4 [1, 2, 0, 1] := fun _ _ _ _ _ _ _ _ _ => by kernel_rfl
theorem r4_1_2_0_2 : PR 4 [1, 2, 0, 2] := fun _ _ _ _ _ _ _ _ _ => by kernel_rfl
theorem r4_1_2_0_3 : PR 4 [1, 2, 0, 3] := fun _ _ _ _ _ _ _ _ _ => by kernel_rfl
theorem r4_1_2_1_0 : PR 4 [1, 2, 1, 0] := fun _ _ _ _ _ _ _ _ _ => by kernel_rfl
theorem r4_1_2_1_1 : PR 4 [1, 2, 1, 1] := fun _ _ _ _ _ _ _ _ _ => by kernel_rfl
theorem r4_1_2_1_2 : PR 4 [1, 2, 1, 2] := fun _ _ _ _ _ _ _ _ _ => by kernel_rfl
theorem r4_1_2_1_3 : PR 4 [1, 2, 1, 3] := fun _ _ _ _ _ _ _ _ _ => by kernel_rfl
theorem r4_1_2_2_0 : PR 4 [1, 2, 2, 0] := fun _ _ _ _ _ _ _ _ _ => by kernel_rfl
theorem r4_1_2_2_1 : PR 4 [1, 2, 2, 1] := fun _ _ _ _ _ _ _ _ _ => by kernel_rfl
theorem r4_1_2_2_2 : PR 4 [1, 2, 2, 2] := fun _ _ _ _ _ _ _ _ _ => by kernel_rfl
theorem r4_1_2_2_3 : PR 4 [1, 2, 2, 3] := fun _ _ _ _ _ _ _ _ _ => by kernel_rfl
theorem r4_1_2_3_0 : PR 4 [1, 2, 3, 0] := fun _ _ _ _ _ _ _ _ _ => by kernel_rfl
theorem r4_1_2_3_1 : PR 4 [1, 2, 3, 1] := fun _ _ _ _ _ _ _ _ _ => by kernel_rfl
theorem r4_1_2_3_2 : PR 4 [1, 2, 3, 2] := fun _ _ _ _ _ _ _ _ _ => by kernel_rfl
theorem r4_1_2_3_3 : PR 4 [1, 2, 3, 3] := fun _ _ _ _ _ _ _ _ _ => by kernel_rfl
theorem r4_1_3_0_0 : PR 4 [1, 3, 0, 0] := fun _ _ _ _ _ _ _ _ _ => by kernel_rfl
theorem r4_1_3_0_1 : PR 4 [1, 3, 0, 1] := fun _ _ _ _ _ _ _ _ _ => by kernel_rfl
theorem r4_1_3_0_2 : PR 4 [1, 3, 0, 2] := fun _ _ _ _ _ _ _ _ _ => by kernel_rfl
theorem r4_1_3_0_3 : PR 4 [1, 3, 0, 3] := fun _ _ _ _ _ _ _ _ _ => by kernel_rfl
theorem r4_1_3_1_0 : PR 4 [1, 3, 1, 0] := fun _ _ _ _ _ _ _ _ _ => by kernel_rfl
theorem r4_1_3_1_1 : PR 4 [1, 3, 1, 1] := fun _ _ _ _ _ _ _ _ _ => by kernel_rfl
theorem r4_1_3_1_2 : PR 4 [1, 3, 1, 2] := fun _ _ _ _ _ _ _ _ _ => by kernel_rfl
theorem r4_1_3_1_3 : PR 4 [1, 3, 1, 3] := fun _ _ _ _ _ _ _ _ _ => by kernel_rfl
theorem r4_1_3_2_0 : PR 4 [1, 3, 2, 0] := fun _ _ _ _ _ _ _ _ _ => by kernel_rfl
theorem r4_1_3_2_1 : PR 4 [1, 3, 2, 1] := fun _ _ _ _ _ _ _ _ _ => by kernel_rfl
theorem r4_1_3_2_2 : PR 4 [1, 3, 2, 2] := fun _ _ _ _ _ _ _ _ _ => by kernel_rfl
theorem r4_1_3_2_3 : PR 4 [1, 3, 2, 3] := fun _ _ _ _ _ _ _ _ _ => by kernel_rfl
theorem r4_1_3_3_0 : PR 4 [1, 3, 3, 0] := fun _ _ _ _ _ _ _ _ _ => by kernel_rfl
theorem r4_1_3_3_1 : PR 4 [1, 3, 3, 1] := fun _ _ _ _ _ _ _ _ _ => by kernel_rfl
theorem r4_1_3_3_2 : PR 4 [1, 3, 3, 2] := fun _ _ _ _ _ _ _ _ _ => by kernel_rfl
theorem r4_1_3_3_3 : PR 4 [1, 3, 3, 3] := fun _ _ _ _ _ _ _ _ _ => by kernel_rfl
theorem r4_2_0_0_0 : PR 4 [2, 0, 0, 0] := fun _ _ _ _ _ _ _ _ _ => by kernel_rfl
theorem r4_2_0_0_1 : PR 4 [2, 0, 0, 1] := fun _ _ _ _ _ _ _ _ _ => by kernel_rfl
theorem r4_2_0_0_2 : PR 4 [2, 0, 0, 2] := fun _ _ _ _ _ _ _ _ _ => by kernel_rfl
theorem r4_2_0_0_3 : PR 4 [2, 0, 0, 3] := fun _ _ _ _ _ _ _ _ _ => by kernel_rfl
theorem r4_2_0_1_0 : PR 4 [2, 0, 1, 0] := fun _ _ _ _ _ _ _ _ _ => by kernel_rfl
theorem r4_2_0_1_1 : PR 4 [2, 0, 1, 1] := fun _ _ _ _ _ _ _ _ _ => by kernel_rfl
theorem r4_2_0_1_2 : PR 4 [2, 0, 1, 2] := fun _ _ _ _ _ _ _ _ _ => by kernel_rfl
theorem r4_2_0_1_3 : PR 4 [2, 0, 1, 3] := fun _ _ _ _ _ _ _ _ _ => by kernel_rfl
theorem r4_2_0_2_0 : PR 4 [2, 0, 2, 0] := fun _ _ _ _ _ _ _ _ _ => by kernel_rfl
theorem r4_2_0_2_1 : PR 4 [2, 0, 2, 1] := fun _ _ _ _ _ _ _ _ _ => by kernel_rfl
theorem r4_2_0_2_2 : PR 4 [2, 0, 2, 2] := fun _ _ _ _ _ _ _ _ _ => by kernel_rfl
theorem r4_2_0_2_3 : PR 4 [2, 0, 2, 3] := fun _ _ _ _ _ _ _ _ _ => by kernel_rfl
theorem r4_2_0_3_0 : PR 4 [2, 0, 3, 0] := fun _ _ _ _ _ _ _ _ _ => by kernel_rfl
theorem r4_2_0_3_1 : PR 4 [2, 0, 3, 1] := fun _ _ _ _ _ _ _ _ _ => by kernel_rfl
theorem r4_2_0_3_2 : PR 4 [2, 0, 3, 2] := fun _ _ _ _ _ _ _ _ _ => by kernel_rfl
theorem r4_2_0_3_3 : PR 4 [2, 0, 3, 3] := fun _ _ _ _ _ _ _ _ _ => by kernel_rfl
theorem r4_2_1_0_0 : PR 4 [2, 1, 0, 0] := fun _ _ _ _ _ _ _ _ _ => by kernel_rfl
theorem r4_2_1_0_1 : PR 4 [2, 1, 0, 1] := fun _ _ _ _ _ _ _ _ _ => by kernel_rfl
theorem r4_2_1_0_2 : PR 4 [2, 1, 0, 2] := fun _ _ _ _ _ _ _ _ _ => by kernel_rfl
theorem r4_2_1_0_3 : PR 4 [2, 1, 0, 3] := fun _ _ _ _ _ _ _ _ _ => by kernel_rfl
theorem r4_2_1_1_0 : PR 4 [2, 1, 1, 0] := fun _ _ _ _ _ _ _ _ _ => by kernel_rfl
theorem r4_2_1_1_1 : PR 4 [2, 1, 1, 1] := fun _ _ _ _ _ _ _ _ _ => by kernel_rfl
theorem r4_2_1_1_2 : PR 4 [2, 1, 1, 2] := fun _ _ _ _ _ _ _ _ _ => by kernel_rfl
theorem r4_2_1_1_3 : PR 4 [2, 1, 1, 3] := fun _ _ _ _ _ _ _ _ _ => by kernel_rfl
theorem r4_2_1_2_0 : PR 4 [2, 1, 2, 0] := fun _ _ _ _ _ _ _ _ _ => by kernel_rfl
theorem r4_2_1_2_1 : PR 4 [2, 1, 2, 1] := fun _ _ _ _ _ _ _ _ _ => by kernel_rfl
theorem r4_2_1_2_2 : PR 4 [2, 1, 2, 2] := fun _ _ _ _ _ _ _ _ _ => by kernel_rfl
theorem r4_2_1_2_3 : PR 4 [2, 1, 2, 3] := fun _ _ _ _ _ _ _ _ _ => by kernel_rfl
theorem r4_2_1_3_0 : PR 4 [2, 1, 3, 0] := fun _ _ _ _ _ _ _ _ _ => by kernel_rfl
theorem r4_2_1_3_1 : PR 4 [2, 1, 3, 1] := fun _ _ _ _ _ _ _ _ _ => by kernel_rfl
theorem r4_2_1_3_2 : PR 4 [2, 1, 3, 2] := fun _ _ _ _ _ _ _ _ _ => by kernel_rfl
theorem r4_2_1_3_3 : PR 4 [2, 1, 3, 3] := fun _ _ _ _ _ _ _ _ _ => by kernel_rfl
theorem r4_2_2_0_0 : PR 4 [2, 2, 0, 0] := fun _ _ _ _ _ _ _ _ _ => by kernel_rfl
theorem r4_2_2_0_1 : PR 4 [2, 2, 0, 1] := fun _ _ _ _ _ _ _ _ _ => by kernel_rfl
theorem r4_2_2_0_2 : PR 4 [2, 2, 0, 2] := fun _ _ _ _ _ _ _ _ _ => by kernel_rfl
theorem r4_2_2_0_3 : PR 4 [2, 2, 0, 3] := fun _ _ _ _ _ _ _ _ _ => by kernel_rfl
theorem r4_2_2_1_0 : PR 4 [2, 2, 1, 0] := fun _ _ _ _ _ _ _ _ _ => by kernel_rfl
theorem r4_2_2_1_1 : PR 4 [2, 2, 1, 1] := fun _ _ _ _ _ _ _ _ _ => by kernel_rfl
theorem r4_2_2_1_2 : PR 4 [2, 2, 1, 2] := fun _ _ _ _ _ _ _ _ _ => by kernel_rfl
theorem r4_2_2_1_3 : PR 4 [2, 2, 1, 3] := fun _ _ _ _ _ _ _ _ _ => by kernel_rfl
theorem r4_2_2_2_0 : PR 4 [2, 2, 2, 0] := fun _ _ _ _ _ _ _ _ _ => by kernel_rfl
theorem r4_2_2_2_1 : PR 4 [2, 2, 2, 1] := fun _ _ _ _ _ _ _ _ _ => by kernel_rfl
theorem r4_2_2_2_2 : PR 4 [2, 2, 2, 2] := fun _ _ _ _ _ _ _ _ _ => by kernel_rfl
theorem r4_2_2_2_3 : PR 4 [2, 2, 2, 3] := fun _ _ _ _ _ _ _ _ _ => by kernel_rfl
theorem r4_2_2_3_0 : PR 4 [2, 2, 3, 0] := fun _ _ _ _ _ _ _ _ _ => by kernel_rfl
theorem r4_2_2_3_1 : PR 4 [2, 2, 3, 1] := fun _ _ _ _ _ _ _ _ _ => by kernel_rfl
theorem r4_2_2_3_2 : PR 4 [2, 2, 3, 2] := fun _ _ _ _ _ _ _ _ _ => by kernel_rfl
theorem r4_2_2_3_3 : PR 4 [2, 2, 3, 3] := fun _ _ _ _ _ _ _ _ _ => by kernel_rfl
theorem r4_2_3_0_0 : PR 4 [2, 3, 0, 0] := fun _ _ _ _ _ _ _ _ _ => by kernel_rfl
theorem r4_2_3_0_1 : PR 4 [2, 3, 0, 1] := fun _ _ _ _ _ _ _ _ _ => by kernel_rfl
theorem r4_2_3_0_2 : PR 4 [2, 3, 0, 2] := fun _ _ _ _ _ _ _ _ _ => by kernel_rfl
theorem r4_2_3_0_3 : PR 4 [2, 3, 0, 3] := fun _ _ _ _ _ _ _ _ _ => by kernel_rfl
theorem r4_2_3_1_0 : PR 4 [2, 3, 1, 0] := fun _ _ _ _ _ _ _ _ _ => by kernel_rfl
theorem r4_2_3_1_1 : PR 4 [2, 3, 1, 1] := fun _ _ _ _ _ _ _ _ _ => by kernel_rfl
theorem r4_2_3_1_2 : PR 4 [2, 3, 1, 2] := fun _ _ _ _ _ _ _ _ _ => by kernel_rfl
theorem r4_2_3_1_3 : PR 4 [2, 3, 1, 3] := fun _ _ _ _ _ _ _ _ _ => by kernel_rfl
theorem r4_2_3_2_0 : PR 4 [2, 3, 2, 0] := fun _ _ _ _ _ _ _ _ _ => by kernel_rfl
theorem r4_2_3_2_1 : PR 4 [2, 3, 2, 1] := fun _ _ _ _ _ _ _ _ _ => by kernel_rfl
theorem r4_2_3_2_2 : PR 4 [2, 3, 2, 2] := fun _ _ _ _ _ _ _ _ _ => by kernel_rfl
theorem r4_2_3_2_3 : PR 4 [2, 3, 2, 3] := fun _ _ _ _ _ _ _ _ _ => by kernel_rfl
theorem r4_2_3_3_0 : PR 4 [2, 3, 3, 0] := fun _ _ _ _ _ _ _ _ _ => by kernel_rfl
theorem r4_2_3_3_1 : PR 4 [2, 3, 3, 1] := fun _ _ _ _ _ _ _ _ _ => by kernel_rfl
theorem r4_2_3_3_2 : PR 4 [2, 3, 3, 2] := fun _ _ _ _ _ _ _ _ _ => by kernel_rfl
theorem r4_2_3_3_3 : PR 4 [2, 3, 3, 3] := fun _ _ _ _ _ _ _ _ _ => by kernel_rfl
theorem r4_3_0_0_0 : PR 4 [3, 0, 0, 0] := fun _ _ _ _ _ _ _ _ _ => by kernel_rfl
theorem r4_3_0_0_1 : PR 4 [3, 0, 0, 1] := fun _ _ _ _ _ _ _ _ _ => by kernel_rfl
theorem r4_3_0_0_2 : PR 4 [3, 0, 0, 2] := fun _ _ _ _ _ _ _ _ _ => by kernel_rfl
theorem r4_3_0_0_3 : PR 4 [3, 0, 0, 3] := fun _ _ _ _ _ _ _ _ _ => by kernel_rfl
theorem r4_3_0_1_0 : PR 4 [3, 0, 1, 0] := fun _ _ _ _ _ _ _ _ _ => by kernel_rfl
theorem r4_3_0_1_1 : PR 4 [3, 0, 1, 1] := fun _ _ _ _ _ _ _ _ _ => by kernel_rfl
theorem r4_3_0_1_2 : PR 4 [3, 0, 1, 2] := fun _ _ _ _ _ _ _ _ _ => by kernel_rfl
theorem r4_3_0_1_3 : PR 4 [3, 0, 1, 3] := fun _ _ _ _ _ _ _ _ _ => by kernel_rfl
theorem r4_3_0_2_0 : PR 4 [3, 0, 2, 0] := fun _ _ _ _ _ _ _ _ _ => by kernel_rfl
theorem r4_3_0_2_1 : PR 4 [3, 0, 2, 1] := fun _ _ _ _ _ _ _ _ _ => by kernel_rfl
theorem r4_3_0_2_2 : PR 4 [3, 0, 2, 2] := fun _ _ _ _ _ _ _ _ _ => by kernel_rfl
theorem r4_3_0_2_3 : PR 4 [3, 0, 2, 3] := fun _ _ _ _ _ _ _ _ _ => by kernel_rfl
theorem r4_3_0_3_0 : PR 4 [3, 0, 3, 0] := fun _ _ _ _ _ _ _ _ _ => by kernel_rfl
theorem r4_3_0_3_1 : PR 4 [3, 0, 3, 1] := fun _ _ _ _ _ _ _ _ _ => by kernel_rfl
theorem r4_3_0_3_2 : PR 4 [3, 0, 3, 2] := fun _ _ _ _ _ _ _ _ _ => by kernel_rfl
theorem r4_3_0_3_3 : PR 4 [3, 0, 3, 3] := fun _ _ _ _ _ _ _ _ _ => by kernel_rfl
theorem r4_3_1_0_0 : PR 4 [3, 1, 0, 0] := fun _ _ _ _ _ _ _ _ _ => by kernel_rfl
theorem r4_3_1_0_1 : PR 4 [3, 1, 0, 1] := fun _ _ _ _ _ _ _ _ _ => by kernel_rfl
theorem r4_3_1_0_2 : PR 4 [3, 1, 0, 2] := fun _ _ _ _ _ _ _ _ _ => by kernel_rfl
theorem r4_3_1_0_3 : PR 4 [3, 1, 0, 3] := fun _ _ _ _ _ _ _ _ _ => by kernel_rfl
theorem r4_3_1_1_0 : PR 4 [3, 1, 1, 0] := fun _ _ _ _ _ _ _ _ _ => by kernel_rfl
theorem r4_3_1_1_1 : PR 4 [3, 1, 1, 1] := fun _ _ _ _ _ _ _ _ _ => by kernel_rfl
theorem r4_3_1_1_2 : PR 4 [3, 1, 1, 2] := fun _ _ _ _ _ _ _ _ _ => by kernel_rfl
theorem r4_3_1_1_3 : PR 4 [3, 1, 1, 3] := fun _ _ _ _ _ _ _ _ _ => by kernel_rfl
theorem r4_3_1_2_0 : PR 4 [3, 1, 2, 0] := fun _ _ _ _ _ _ _ _ _ => by kernel_rfl
theorem r4_3_1_2_1 : PR 4 [3, 1, 2, 1] := fun _ _ _ _ _ _ _ _ _ => by kernel_rfl
theorem r4_3_1_2_2 : PR 4 [3, 1, 2, 2] := fun _ _ _ _ _ _ _ _ _ => by kernel_rfl
theorem r4_3_1_2_3 : PR 4 [3, 1, 2, 3] := fun _ _ _ _ _ _ _ _ _ => by kernel_rfl
theorem r4_3_1_3_0 : PR 4 [3, 1, 3, 0] := fun _ _ _ _ _ _ _ _ _ => by kernel_rfl
theorem r4_3_1_3_1 : PR 4 [3, 1, 3, 1] := fun _ _ _ _ _ _ _ _ _ => by kernel_rfl
theorem r4_3_1_3_2 : PR 4 [3, 1, 3, 2] := fun _ _ _ _ _ _ _ _ _ => by kernel_rfl
theorem r4_3_1_3_3 : PR 4 [3, 1, 3, 3] := fun _ _ _ _ _ _ _ _ _ => by kernel_rfl
theorem r4_3_2_0_0 : PR 4 [3, 2, 0, 0] := fun _ _ _ _ _ _ _ _ _ => by kernel_rfl
theorem r4_3_2_0_1 : PR 4 [3, 2, 0, 1] := fun _ _ _ _ _ _ _ _ _ => by kernel_rfl
theorem r4_3_2_0_2 : PR 4 [3, 2, 0, 2] := fun _ _ _ _ _ _ _ _ _ => by kernel_rfl
theorem r4_3_2_0_3 : PR 4 [3, 2, 0, 3] := fun _ _ _ _ _ _ _ _ _ => by kernel_rfl
theorem r4_3_2_1_0 : PR 4 [3, 2, 1, 0] := fun _ _ _ _ _ _ _ _ _ => by kernel_rfl
theorem r4_3_2_1_1 : PR 4 [3, 2, 1, 1] := fun _ _ _ _ _ _ _ _ _ => by kernel_rfl
theorem r4_3_2_1_2 : PR 4 [3, 2, 1, 2] := fun _ _ _ _ _ _ _ _ _ => by kernel_rfl
theorem r4_3_2_1_3 : PR 4 [3, 2, 1, 3] := fun _ _ _ _ _ _ _ _ _ => by kernel_rfl
theorem r4_3_2_2_0 : PR 4 [3, 2, 2, 0] := fun _ _ _ _ _ _ _ _ _ => by kernel_rfl
theorem r4_3_2_2_1 : PR 4 [3, 2, 2, 1] := fun _ _ _ _ _ _ _ _ _ => by kernel_rfl
theorem r4_3_2_2_2 : PR 4 [3, 2, 2, 2] := fun _ _ _ _ _ _ _ _ _ => by kernel_rfl
theorem r4_3_2_2_3 : PR 4 [3, 2, 2, 3] := fun _ _ _ _ _ _ _ _ _ => by kernel_rfl
theorem r4_3_2_3_0 : PR 4 [3, 2, 3, 0] := fun _ _ _ _ _ _ _ _ _ => by kernel_rfl
theorem r4_3_2_3_1 : PR 4 [3, 2, 3, 1] := fun _ _ _ _ _ _ _ _ _ => by kernel_rfl
theorem r4_3_2_3_2 : PR 4 [3, 2, 3, 2] := fun _ _ _ _ _ _ _ _ _ => by kernel_rfl
theorem r4_3_2_3_3 : PR 4 [3, 2, 3, 3] := fun _ _ _ _ _ _ _ _ _ => by kernel_rfl
theorem r4_3_3_0_0 : PR 4 [3, 3, 0, 0] := fun _ _ _ _ _ _ _ _ _ => by kernel_rfl
theorem r4_3_3_0_1 : PR 4 [3, 3, 0, 1] := fun _ _ _ _ _ _ _ _ _ => by kernel_rfl
theorem r4_3_3_0_2 : PR 4 [3, 3, 0, 2] := fun _ _ _ _ _ _ _ _ _ => by kernel_rfl
theorem r4_3_3_0_3 : PR 4 [3, 3, 0, 3] := fun _ _ _ _ _ _ _ _ _ => by kernel_rfl
theorem r4_3_3_1_0 : PR 4 [3, 3, 1, 0] := fun _ _ _ _ _ _ _ _ _ => by kernel_rfl
theorem r4_3_3_1_1 : PR 4 [3, 3, 1, 1] := fun _ _ _ _ _ _ _ _ _ => by kernel_rfl
theorem r4_3_3_1_2 : PR 4 [3, 3, 1, 2] := fun _ _ _ _ _ _ _ _ _ => by kernel_rfl
theorem r4_3_3_1_3 : PR 4 [3, 3, 1, 3] := fun _ _ _ _ _ _ _ _ _ => by kernel_rfl
theorem r4_3_3_2_0 : PR 4 [3, 3, 2, 0] := fun _ _ _ _ _ _ _ _ _ => by kernel_rfl
theorem r4_3_3_2_1 : PR 4 [3, 3, 2, 1] := fun _ _ _ _ _ _ _ _ _ => by kernel_rfl
theorem r4_3_3_2_2 : PR 4 [3, 3, 2, 2] := fun _ _ _ _ _ _ _ _ _ => by kernel_rfl
theorem r4_3_3_2_3 : PR 4 [3, 3, 2, 3] := fun _ _ _ _ _ _ _ _ _ => by kernel_rfl
theorem r4_3_3_3_0 : PR 4 [3, 3, 3, 0] := fun _ _ _ _ _ _ _ _ _ => by kernel_rfl
theorem r4_3_3_3_1 : PR 4 [3, 3, 3, 1] := fun _ _ _ _ _ _ _ _ _ => by kernel_rfl
theorem r4_3_3_3_2 : PR 4 [3, 3, 3, 2] := fun _ _ _ _ _ _ _ _ _ => by kernel_rfl
theorem r4_3_3_3_3 : PR 4 [3, 3, 3, 3] := fun _ _ _ _ _ _ _ _ _ => by kernel_rfl
theorem rr4_0_0_0 (p3 : Nat) (h3 : p3 < 4) : PR 4 [0, 0, 0, p3] := match p3, h3 with
  | 0, _ => r4_0_0_0_0
  | 1, _ => r4_0_0_0_1
  | 2, _ => r4_0_0_0_2
  | 3, _ => r4_0_0_0_3
  | m + 4, h => absurd h (by omega)
theorem rr4_0_0_1 (p3 : Nat) (h3 : p3 < 4) : PR 4 [0, 0, 1, p3] := match p3, h3 with
  | 0, _ => r4_0_0_1_0
  | 1, _ => r4_0_0_1_1
  | 2, _ => r4_0_0_1_2
  | 3, _ => r4_0_0_1_3
  | m + 4, h => absurd h (by omega)
theorem rr4_0_0_2 (p3 : Nat) (h3 : p3 < 4) : PR 4 [0, 0, 2, p3] := match p3, h3 with
  | 0, _ => r4_0_0_2_0
  | 1, _ => r4_0_0_2_1
  | 2, _ => r4_0_0_2_2
  | 3, _ => r4_0_0_2_3
  | m + 4, h => absurd h (by omega)
theorem rr4_0_0_3 (p3 : Nat) (h3 : p3 < 4) : PR 4 [0, 0, 3, p3] := match p3, h3 with
  | 0, _ => r4_0_0_3_0
  | 1, _ => r4_0_0_3_1
  | 2, _ => r4_0_0_3_2
  | 3, _ => r4_0_0_3_3
  | m + 4, h => absurd h (by omega)
theorem rr4_0_0 (p2 p3 : Nat) (h2 : p2 < 4) (h3 : p3 < 4) : PR 4 [0, 0, p2, p3] := match p2, h2 with
  | 0, _ => rr4_0_0_0 p3 h3
  | 1, _ => rr4_0_0_1 p3 h3
  | 2, _ => rr4_0_0_2 p3 h3
  | 3, _ => rr4_0_0_3 p3 h3
  | m + 4, h => absurd h (by omega)
theorem rr4_0_1_0 (p3 : Nat) (h3 : p3 < 4) : PR 4 [0, 1, 0, p3] := match p3, h3 with
  | 0, _ => r4_0_1_0_0
  | 1, _ => r4_0_1_0_1
  | 2, _ => r4_0_1_0_2
  | 3, _ => r4_0_1_0_3
  | m + 4, h => absurd h (by omega)
theorem rr4_0_1_1 (p3 : Nat) (h3 : p3 < 4) : PR 4 [0, 1, 1, p3] := match p3, h3 with
  | 0, _ => r4_0_1_1_0
  | 1, _ => r4_0_1_1_1
  | 2, _ => r4_0_1_1_2
  | 3, _ => r4_0_1_1_3
  | m + 4, h => absurd h (by omega)
theorem rr4_0_1_2 (p3 : Nat) (h3 : p3 < 4) : PR 4 [0, 1, 2, p3] := match p3, h3 with
  | 0, _ => r4_0_1_2_0
  | 1, _ => r4_0_1_2_1
  | 2, _ => r4_0_1_2_2
  | 3, _ => r4_0_1_2_3
  | m + 4, h => absurd h (by omega)
theorem rr4_0_1_3 (p3 : Nat) (h3 : p3 < 4) : PR 4 [0, 1, 3, p3] := match p3, h3 with
  | 0, _ => r4_0_1_3_0
  | 1, _ => r4_0_1_3_1
  | 2, _ => r4_0_1_3_2
  | 3, _ => r4_0_1_3_3
  | m + 4, h => absurd h (by omega)
theorem rr4_0_1 (p2 p3 : Nat) (h2 : p2 < 4) (h3 : p3 < 4) : PR 4 [0, 1, p2, p3] := match p2, h2 with
  | 0, _ => rr4_0_1_0 p3 h3
  | 1, _ => rr4_0_1_1 p3 h3
  | 2, _ => rr4_0_1_2 p3 h3
  | 3, _ => rr4_0_1_3 p3 h3
  | m + 4, h => absurd h (by omega)
theorem rr4_0_2_0 (p3 : Nat) (h3 : p3 < 4) : PR 4 [0, 2, 0, p3] := match p3, h3 with
  | 0, _ => r4_0_2_0_0
  | 1, _ => r4_0_2_0_1
  | 2, _ => r4_0_2_0_2
  | 3, _ => r4_0_2_0_3
  | m + 4, h => absurd h (by omega)
theorem rr4_0_2_1 (p3 : Nat) (h3 : p3 < 4) : PR 4 [0, 2, 1, p3] := match p3, h3 with
  | 0, _ => r4_0_2_1_0
  | 1, _ => r4_0_2_1_1
  | 2, _ => r4_0_2_1_2
  | 3, _ => r4_0_2_1_3
  | m + 4, h => absurd h (by omega)
theorem rr4_0_2_2 (p3 : Nat) (h3 : p3 < 4) : PR 4 [0, 2, 2, p3] := match p3, h3 with
  | 0, _ => r4_0_2_2_0
  | 1, _ => r4_0_2_2_1
  | 2, _ => r4_0_2_2_2
  | 3, _ => r4_0_2_2_3
  | m + 4, h => absurd h (by omega)
theorem rr4_0_2_3 (p3 : Nat) (h3 : p3 < 4) : PR 4 [0, 2, 3, p3] := match p3, h3 with
  | 0, _ => r4_0_2_3_0
  | 1, _ => r4_0_2_3_1
  | 2, _ => r4_0_2_3_2
  | 3, _ => r4_0_2_3_3
  | m + 4, h => absurd h (by omega)
theorem rr4_0_2 (p2 p3 : Nat) (h2 : p2 < 4) (h3 : p3 < 4) : PR 4 [0, 2, p2, p3] := match p2, h2 with
  | 0, _ => rr4_0_2_0 p3 h3
  | 1, _ => rr4_0_2_1 p3 h3
  | 2, _ => rr4_0_2_2 p3 h3
  | 3, _ => rr4_0_2_3 p3 h3
  | m + 4, h => absurd h (by omega)
theorem rr4_0_3_0 (p3 : Nat) (h3 : p3 < 4) : PR 4 [0, 3, 0, p3] := match p3, h3 with
  | 0, _ => r4_0_3_0_0
  | 1, _ => r4_0_3_0_1
  | 2, _ => r4_0_3_0_2
  | 3, _ => r4_0_3_0_3
  | m + 4, h => absurd h (by omega)
theorem rr4_0_3_1 (p3 : Nat) (h3 : p3 < 4) : PR 4 [0, 3, 1, p3] := match p3, h3 with
  | 0, _ => r4_0_3_1_0
  | 1, _ => r4_0_3_1_1
  | 2, _ => r4_0_3_1_2
  | 3, _ => r4_0_3_1_3
  | m + 4, h => absurd h (by omega)
theorem rr4_0_3_2 (p3 : Nat) (h3 : p3 < 4) : PR 4 [0, 3, 2, p3] := match p3, h3 with
  | 0, _ => r4_0_3_2_0
  | 1, _ => r4_0_3_2_1
  | 2, _ => r4_0_3_2_2
  | 3, _ => r4_0_3_2_3
  | m + 4, h => absurd h (by omega)
theorem rr4_0_3_3 (p3 : Nat) (h3 : p3 < 4) : PR 4 [0, 3, 3, p3] := match p3, h3 with
  | 0, _ => r4_0_3_3_0
  | 1, _ => r4_0_3_3_1
  | 2, _ => r4_0_3_3_2
  | 3, _ => r4_0_3_3_3
  | m + 4, h => absurd h (by omega)
theorem rr4_0_3 (p2 p3 : Nat) (h2 : p2 < 4) (h3 : p3 < 4) : PR 4 [0, 3, p2, p3] := match p2, h2 with
  | 0, _ => rr4_0_3_0 p3 h3
  | 1, _ => rr4_0_3_1 p3 h3
  | 2, _ => rr4_0_3_2 p3 h3
  | 3, _ => rr4_0_3_3 p3 h3
  | m + 4, h => absurd h (by omega)
theorem rr4_0 (p1 p2 p3 : Nat) (h1 : p1 < 4) (h2 : p2 < 4) (h3 : p3 < 4) : PR 4 [0, p1, p2, p3] := match p1, h1 with
  | 0, _ => rr4_0_0 p2 p3 h2 h3
  | 1, _ => rr4_0_1 p2 p3 h2 h3
  | 2, _ => rr4_0_2 p2 p3 h2 h3
  | 3, _ => rr4_0_3 p2 p3 h2 h3
  | m + 4, h => absurd h (by omega)
theorem rr4_1_0_0 (p3 : Nat) (h3 : p3 < 4) : PR 4 [1, 0, 0, p3] := match p3, h3 with
  | 0, _ => r4_1_0_0_0
  | 1, _ => r4_1_0_0_1
  | 2, _ => r4_1_0_0_2
  | 3, _ => r4_1_0_0_3
  | m + 4, h => absurd h (by omega)
theorem rr4_1_0_1 (p3 : Nat) (h3 : p3 < 4) : PR 4 [1, 0, 1, p3] := match p3, h3 with
  | 0, _ => r4_1_0_1_0
  | 1, _ => r4_1_0_1_1
  | 2, _ => r4_1_0_1_2
  | 3, _ => r4_1_0_1_3
  | m + 4, h => absurd h (by omega)
theorem rr4_1_0_2 (p3 : Nat) (h3 : p3 < 4) : PR 4 [1, 0, 2, p3] := match p3, h3 with
  | 0, _ => r4_1_0_2_0
  | 1, _ => r4_1_0_2_1
  | 2, _ => r4_1_0_2_2
  | 3, _ => r4_1_0_2_3
  | m + 4, h => absurd h (by omega)
theorem rr4_1_0_3 (p3 : Nat) (h3 : p3 < 4) : PR 4 [1, 0, 3, p3] := match p3, h3 with
  | 0, _ => r4_1_0_3_0
  | 1, _ => r4_1_0_3_1
  | 2, _ => r4_1_0_3_2
  | 3, _ => r4_1_0_3_3
  | m + 4, h => absurd h (by omega)
theorem rr4_1_0 (p2 p3 : Nat) (h2 : p2 < 4) (h3 : p3 < 4) : PR 4 [1, 0, p2, p3] := match p2, h2 with
  | 0, _ => rr4_1_0_0 p3 h3
  | 1, _ => rr4_1_0_1 p3 h3
  | 2, _ => rr4_1_0_2 p3 h3
  | 3, _ => rr4_1_0_3 p3 h3
  | m + 4, h => absurd h (by omega)
theorem rr4_1_1_0 (p3 : Nat) (h3 : p3 < 4) : PR 4 [1, 1, 0, p3] := match p3, h3 with
  | 0, _ => r4_1_1_0_0
  | 1, _ => r4_1_1_0_1
  | 2, _ => r4_1_1_0_2
  | 3, _ => r4_1_1_0_3
  | m + 4, h => absurd h (by omega)
theorem rr4_1_1_1 (p3 : Nat) (h3 : p3 < 4) : PR 4 [1, 1, 1, p3] := match p3, h3 with
  | 0, _ => r4_1_1_1_0
  | 1, _ => r4_1_1_1_1
  | 2, _ => r4_1_1_1_2
  | 3, _ => r4_1_1_1_3
  | m + 4, h => absurd h (by omega)
theorem rr4_1_1_2 (p3 : Nat) (h3 : p3 < 4) : PR 4 [1, 1, 2, p3] := match p3, h3 with
  | 0, _ => r4_1_1_2_0
  | 1, _ => r4_1_1_2_1
  | 2, _ => r4_1_1_2_2
  | 3, _ => r4_1_1_2_3
  | m + 4, h => absurd h (by omega)
theorem rr4_1_1_3 (p3 : Nat) (h3 : p3 < 4) : PR 4 [1, 1, 3, p3] := match p3, h3 with
  | 0, _ => r4_1_1_3_0
  | 1, _ => r4_1_1_3_1
  | 2, _ => r4_1_1_3_2
  | 3, _ => r4_1_1_3_3
  | m + 4, h => absurd h (by omega)
theorem rr4_1_1 (p2 p3 : Nat) (h2 : p2 < 4) (h3 : p3 < 4) : PR 4 [1, 1, p2, p3] := match p2, h2 with
  | 0, _ => rr4_1_1_0 p3 h3
  | 1, _ => rr4_1_1_1 p3 h3
  | 2, _ => rr4_1_1_2 p3 h3
  | 3, _ => rr4_1_1_3 p3 h3
  | m + 4, h => absurd h (by omega)
theorem rr4_1_2_0 (p3 : Nat) (h3 : p3 < 4) : PR 4 [1, 2, 0, p3] := match p3, h3 with
  | 0, _ => r4_1_2_0_0
  | 1, _ => r4_1_2_0_1
  | 2, _ => r4_1_2_0_2
  | 3, _ => r4_1_2_0_3
  | m + 4, h => absurd h (by omega)
theorem rr4_1_2_1 (p3 : Nat) (h3 : p3 < 4) : PR 4 [1, 2, 1, p3] := match p3, h3 with
  | 0, _ => r4_1_2_1_0
  | 1, _ => r4_1_2_1_1
  | 2, _ => r4_1_2_1_2
  | 3, _ => r4_1_2_1_3
  | m + 4, h => absurd h (by omega)
theorem rr4_1_2_2 (p3 : Nat) (h3 : p3 < 4) : PR 4 [1, 2, 2, p3] := match p3, h3 with
  | 0, _ => r4_1_2_2_0
  | 1, _ => r4_1_2_2_1
  | 2, _ => r4_1_2_2_2
  | 3, _ => r4_1_2_2_3
  | m + 4, h => absurd h (by omega)
theorem rr4_1_2_3 (p3 : Nat) (h3 : p3 < 4) : PR 4 [1, 2, 3, p3] := match p3, h3 with
  | 0, _ => r4_1_2_3_0
  | 1, _ => r4_1_2_3_1
  | 2, _ => r4_1_2_3_2
  | 3, _ => r4_1_2_3_3
  | m + 4, h => absurd h (by omega)
theorem rr4_1_2 (p2 p3 : Nat) (h2 : p2 < 4) (h3 : p3 < 4) : PR 4 [1, 2, p2, p3] := match p2, h2 with
  | 0, _ => rr4_1_2_0 p3 h3
  | 1, _ => rr4_1_2_1 p3 h3
  | 2, _ => rr4_1_2_2 p3 h3
  | 3, _ => rr4_1_2_3 p3 h3
  | m + 4, h => absurd h (by omega)
theorem rr4_1_3_0 (p3 : Nat) (h3 : p3 < 4) : PR 4 [1, 3, 0, p3] := match p3, h3 with
  | 0, _ => r4_1_3_0_0
  | 1, _ => r4_1_3_0_1
  | 2, _ => r4_1_3_0_2
  | 3, _ => r4_1_3_0_3
  | m + 4, h => absurd h (by omega)
theorem rr4_1_3_1 (p3 : Nat) (h3 : p3 < 4) : PR 4 [1, 3, 1, p3] := match p3, h3 with
  | 0, _ => r4_1_3_1_0
  | 1, _ => r4_1_3_1_1
  | 2, _ => r4_1_3_1_2
  | 3, _ => r4_1_3_1_3
  | m + 4, h => absurd h (by omega)
theorem rr4_1_3_2 (p3 : Nat) (h3 : p3 < 4) : PR 4 [1, 3, 2, p3] := match p3, h3 with
  | 0, _ => r4_1_3_2_0
  | 1, _ => r4_1_3_2_1
  | 2, _ => r4_1_3_2_2
  | 3, _ => r4_1_3_2_3
  | m + 4, h => absurd h (by omega)
theorem rr4_1_3_3 (p3 : Nat) (h3 : p3 < 4) : PR 4 [1, 3, 3, p3] := match p3, h3 with
  | 0, _ => r4_1_3_3_0
  | 1, _ => r4_1_3_3_1
  | 2, _ => r4_1_3_3_2
  | 3, _ => r4_1_3_3_3
  | m + 4, h => absurd h (by omega)
theorem rr4_1_3 (p2 p3 : Nat) (h2 : p2 < 4) (h3 : p3 < 4) : PR 4 [1, 3, p2, p3] := match p2, h2 with
  | 0, _ => rr4_1_3_0 p3 h3
  | 1, _ => rr4_1_3_1 p3 h3
  | 2, _ => rr4_1_3_2 p3 h3
  | 3, _ => rr4_1_3_3 p3 h3
  | m + 4, h => absurd h (by omega)
theorem rr4_1 (p1 p2 p3 : Nat) (h1 : p1 < 4) (h2 : p2 < 4) (h3 : p3 < 4) : PR 4 [1, p1, p2, p3] := match p1, h1 with
  | 0, _ => rr4_1_0 p2 p3 h2 h3
  | 1, _ => rr4_1_1 p2 p3 h2 h3
  | 2, _ => rr4_1_2 p2 p3 h2 h3
  | 3, _ => rr4_1_3 p2 p3 h2 h3
  | m + 4, h => absurd h (by omega)
theorem rr4_2_0_0 (p3 : Nat) (h3 : p3 < 4) : PR 4 [2, 0, 0, p3] := match p3, h3 with
  | 0, _ => r4_2_0_0_0
  | 1, _ => r4_2_0_0_1
  | 2, _ => r4_2_0_0_2
  | 3, _ => r4_2_0_0_3
  | m + 4, h => absurd h (by omega)
theorem rr4_2_0_1 (p3 : Nat) (h3 : p3 < 4) : PR 4 [2, 0, 1, p3] := match p3, h3 with
  | 0, _ => r4_2_0_1_0
  | 1, _ => r4_2_0_1_1
  | 2, _ => r4_2_0_1_2
  | 3, _ => r4_2_0_1_3
  | m + 4, h => absurd h (by omega)
theorem rr4_2_0_2 (p3 : Nat) (h3 : p3 < 4) : PR 4 [2, 0, 2, p3] := match p3, h3 with
  | 0, _ => r4_2_0_2_0
  | 1, _ => r4_2_0_2_1
  | 2, _ => r4_2_0_2_2
  | 3, _ => r4_2_0_2_3
  | m + 4, h => absurd h (by omega)
theorem rr4_2_0_3 (p3 : Nat) (h3 : p3 < 4) : PR 4 [2, 0, 3, p3] := match p3, h3 with
  | 0, _ => r4_2_0_3_0
  | 1, _ => r4_2_0_3_1
  | 2, _ => r4_2_0_3_2
  | 3, _ => r4_2_0_3_3
  | m + 4, h => absurd h (by omega)
theorem rr4_2_0 (p2 p3 : Nat) (h2 : p2 < 4) (h3 : p3 < 4) : PR 4 [2, 0, p2, p3] := match p2, h2 with
  | 0, _ => rr4_2_0_0 p3 h3
  | 1, _ => rr4_2_0_1 p3 h3
  | 2, _ => rr4_2_0_2 p3 h3
  | 3, _ => rr4_2_0_3 p3 h3
  | m + 4, h => absurd h (by omega)
theorem rr4_2_1_0 (p3 : Nat) (h3 : p3 < 4) : PR 4 [2, 1, 0, p3] := match p3, h3 with
  | 0, _ => r4_2_1_0_0
  | 1, _ => r4_2_1_0_1
  | 2, _ => r4_2_1_0_2
  | 3, _ => r4_2_1_0_3
  | m + 4, h => absurd h (by omega)
theorem rr4_2_1_1 (p3 : Nat) (h3 : p3 < 4) : PR 4 [2, 1, 1, p3] := match p3, h3 with
  | 0, _ => r4_2_1_1_0
  | 1, _ => r4_2_1_1_1
  | 2, _ => r4_2_1_1_2
  | 3, _ => r4_2_1_1_3
  | m + 4, h => absurd h (by omega)
theorem rr4_2_1_2 (p3 : Nat) (h3 : p3 < 4) : PR 4 [2, 1, 2, p3] := match p3, h3 with
  | 0, _ => r4_2_1_2_0
  | 1, _ => r4_2_1_2_1
  | 2, _ => r4_2_1_2_2
  | 3, _ => r4_2_1_2_3
  | m + 4, h => absurd h (by omega)
theorem rr4_2_1_3 (p3 : Nat) (h3 : p3 < 4) : PR 4 [2, 1, 3, p3] := match p3, h3 with
  | 0, _ => r4_2_1_3_0
  | 1, _ => r4_2_1_3_1
  | 2, _ => r4_2_1_3_2
  | 3, _ => r4_2_1_3_3
  | m + 4, h => absurd h (by omega)
theorem rr4_2_1 (p2 p3 : Nat) (h2 : p2 < 4) (h3 : p3 < 4) : PR 4 [2, 1, p2, p3] := match p2, h2 with
  | 0, _ => rr4_2_1_0 p3 h3
  | 1, _ => rr4_2_1_1 p3 h3
  | 2, _ => rr4_2_1_2 p3 h3
  | 3, _ => rr4_2_1_3 p3 h3
  | m + 4, h => absurd h (by omega)
theorem rr4_2_2_0 (p3 : Nat) (h3 : p3 < 4) : PR 4 [2, 2, 0, p3] := match p3, h3 with
  | 0, _ => r4_2_2_0_0
  | 1, _ => r4_2_2_0_1
  | 2, _ => r4_2_2_0_2
  | 3, _ => r4_2_2_0_3
  | m + 4, h => absurd h (by omega)
theorem rr4_2_2_1 (p3 : Nat) (h3 : p3 < 4) : PR 4 [2, 2, 1, p3] := match p3, h3 with
  | 0, _ => r4_2_2_1_0
  | 1, _ => r4_2_2_1_1
  | 2, _ => r4_2_2_1_2
  | 3, _ => r4_2_2_1_3
  | m + 4, h => absurd h (by omega)
theorem rr4_2_2_2 (p3 : Nat) (h3 : p3 < 4) : PR 4 [2, 2, 2, p3] := match p3, h3 with
  | 0, _ => r4_2_2_2_0
  | 1, _ => r4_2_2_2_1
  | 2, _ => r4_2_2_2_2
  | 3, _ => r4_2_2_2_3
  | m + 4, h => absurd h (by omega)
theorem rr4_2_2_3 (p3 : Nat) (h3 : p3 < 4) : PR 4 [2, 2, 3, p3] := match p3, h3 with
  | 0, _ => r4_2_2_3_0
  | 1, _ => r4_2_2_3_1
  | 2, _ => r4_2_2_3_2
  | 3, _ => r4_2_2_3_3
  | m + 4, h => absurd h (by omega)
theorem rr4_2_2 (p2 p3 : Nat) (h2 : p2 < 4) (h3 : p3 < 4) : PR 4 [2, 2, p2, p3] := match p2, h2 with
  | 0, _ => rr4_2_2_0 p3 h3
  | 1, _ => rr4_2_2_1 p3 h3
  | 2, _ => rr4_2_2_2 p3 h3
  | 3, _ => rr4_2_2_3 p3 h3
  | m + 4, h => absurd h (by omega)
theorem rr4_2_3_0 (p3 : Nat) (h3 : p3 < 4) : PR 4 [2, 3, 0, p3] := match p3, h3 with
  | 0, _ => r4_2_3_0_0
  | 1, _ => r4_2_3_0_1
  | 2, _ => r4_2_3_0_2
  | 3, _ => r4_2_3_0_3
  | m + 4, h => absurd h (by omega)
theorem rr4_2_3_1 (p3 : Nat) (h3 : p3 < 4) : PR 4 [2, 3, 1, p3] := match p3, h3 with
  | 0, _ => r4_2_3_1_0
  | 1, _ => r4_2_3_1_1
  | 2, _ => r4_2_3_1_2
  | 3, _ => r4_2_3_1_3
  | m + 4, h => absurd h (by omega)
theorem rr4_2_3_2 (p3 : Nat) (h3 : p3 < 4) : PR 4 [2, 3, 2, p3] := match p3, h3 with
  | 0, _ => r4_2_3_2_0
  | 1, _ => r4_2_3_2_1
  | 2, _ => r4_2_3_2_2
  | 3, _ => r4_2_3_2_3
  | m + 4, h => absurd h (by omega)
theorem rr4_2_3_3 (p3 : Nat) (h3 : p3 < 4) : PR 4 [2, 3, 3, p3] := match p3, h3 with
  | 0, _ => r4_2_3_3_0
  | 1, _ => r4_2_3_3_1
  | 2, _ => r4_2_3_3_2
  | 3, _ => r4_2_3_3_3
  | m + 4, h => absurd h (by omega)
theorem rr4_2_3 (p2 p3 : Nat) (h2 : p2 < 4) (h3 : p3 < 4) : PR 4 [2, 3, p2, p3] := match p2, h2 with
  | 0, _ => rr4_2_3_0 p3 h3
  | 1, _ => rr4_2_3_1 p3 h3
  | 2, _ => rr4_2_3_2 p3 h3
  | 3, _ => rr4_2_3_3 p3 h3
  | m + 4, h => absurd h (by omega)
theorem rr4_2 (p1 p2 p3 : Nat) (h1 : p1 < 4) (h2 : p2 < 4) (h3 : p3 < 4) : PR 4 [2, p1, p2, p3] := match p1, h1 with
  | 0, _ => rr4_2_0 p2 p3 h2 h3
  | 1, _ => rr4_2_1 p2 p3 h2 h3
  | 2, _ => rr4_2_2 p2 p3 h2 h3
  | 3, _ => rr4_2_3 p2 p3 h2 h3
  | m + 4, h => absurd h (by omega)
theorem rr4_3_0_0 (p3 : Nat) (h3 : p3 < 4) : PR 4 [3, 0, 0, p3] := match p3, h3 with
  | 0, _ => r4_3_0_0_0
  | 1, _ => r4_3_0_0_1
  | 2, _ => r4_3_0_0_2
  | 3, _ => r4_3_0_0_3
  | m + 4, h => absurd h (by omega)
theorem rr4_3_0_1 (p3 : Nat) (h3 : p3 < 4) : PR 4 [3, 0, 1, p3] := match p3, h3 with
  | 0, _ => r4_3_0_1_0
  | 1, _ => r4_3_0_1_1
  | 2, _ => r4_3_0_1_2
  | 3, _ => r4_3_0_1_3
  | m + 4, h => absurd h (by omega)
theorem rr4_3_0_2 (p3 : Nat) (h3 : p3 < 4) : PR 4 [3, 0, 2, p3] := match p3, h3 with
  | 0, _ => r4_3_0_2_0
  | 1, _ => r4_3_0_2_1
  | 2, _ => r4_3_0_2_2
  | 3, _ => r4_3_0_2_3
  | m + 4, h => absurd h (by omega)
theorem rr4_3_0_3 (p3 : Nat) (h3 : p3 < 4) : PR 4 [3, 0, 3, p3] := match p3, h3 with
  | 0, _ => r4_3_0_3_0
  | 1, _ => r4_3_0_3_1
  | 2, _ => r4_3_0_3_2
  | 3, _ => r4_3_0_3_3
  | m + 4, h => absurd h (by omega)
theorem rr4_3_0 (p2 p3 : Nat) (h2 : p2 < 4) (h3 : p3 < 4) : PR 4 [3, 0, p2, p3] := match p2, h2 with
  | 0, _ => rr4_3_0_0 p3 h3
  | 1, _ => rr4_3_0_1 p3 h3
  | 2, _ => rr4_3_0_2 p3 h3
  | 3, _ => rr4_3_0_3 p3 h3
  | m + 4, h => absurd h (by omega)
theorem rr4_3_1_0 (p3 : Nat) (h3 : p3 < 4) : PR 4 [3, 1, 0, p3] := match p3, h3 with
  | 0, _ => r4_3_1_0_0
  | 1, _ => r4_3_1_0_1
  | 2, _ => r4_3_1_0_2
  | 3, _ => r4_3_1_0_3
  | m + 4, h => absurd h (by omega)
theorem rr4_3_1_1 (p3 : Nat) (h3 : p3 < 4) : PR 4 [3, 1, 1, p3] := match p3, h3 with
  | 0, _ => r4_3_1_1_0
  | 1, _ => r4_3_1_1_1
  | 2, _ => r4_3_1_1_2
  | 3, _ => r4_3_1_1_3
  | m + 4, h => absurd h (by omega)
theorem rr4_3_1_2 (p3 : Nat) (h3 : p3 < 4) : PR 4 [3, 1, 2, p3] := match p3, h3 with
  | 0, _ => r4_3_1_2_0
  | 1, _ => r4_3_1_2_1
  | 2, _ => r4_3_1_2_2
  | 3, _ => r4_3_1_2_3
  | m + 4, h => absurd h (by omega)
theorem rr4_3_1_3 (p3 : Nat) (h3 : p3 < 4) : PR 4 [3, 1, 3, p3] := match p3, h3 with
  | 0, _ => r4_3_1_3_0
  | 1, _ => r4_3_1_3_1
  | 2, _ => r4_3_1_3_2
  | 3, _ => r4_3_1_3_3
  | m + 4, h => absurd h (by omega)
theorem rr4_3_1 (p2 p3 : Nat) (h2 : p2 < 4) (h3 : p3 < 4) : PR 4 [3, 1, p2, p3] := match p2, h2 with
  | 0, _ => rr4_3_1_0 p3 h3
  | 1, _ => rr4_3_1_1 p3 h3
  | 2, _ => rr4_3_1_2 p3 h3
  | 3, _ => rr4_3_1_3 p3 h3
  | m + 4, h => absurd h (by omega)
theorem rr4_3_2_0 (p3 : Nat) (h3 : p3 < 4) : PR 4 [3, 2, 0, p3] := match p3, h3 with
  | 0, _ => r4_3_2_0_0
  | 1, _ => r4_3_2_0_1
  | 2, _ => r4_3_2_0_2
  | 3, _ => r4_3_2_0_3
  | m + 4, h => absurd h (by omega)
theorem rr4_3_2_1 (p3 : Nat) (h3 : p3 < 4) : PR 4 [3, 2, 1, p3] := match p3, h3 with
  | 0, _ => r4_3_2_1_0
  | 1, _ => r4_3_2_1_1
  | 2, _ => r4_3_2_1_2
  | 3, _ => r4_3_2_1_3
  | m + 4, h => absurd h (by omega)
theorem rr4_3_2_2 (p3 : Nat) (h3 : p3 < 4) : PR 4 [3, 2, 2, p3] := match p3, h3 with
  | 0, _ => r4_3_2_2_0
  | 1, _ => r4_3_2_2_1
  | 2, _ => r4_3_2_2_2
  | 3, _ => r4_3_2_2_3
  | m + 4, h => absurd h (by omega)
theorem rr4_3_2_3 (p3 : Nat) (h3 : p3 < 4) : PR 4 [3, 2, 3, p3] := match p3, h3 with
  | 0, _ => r4_3_2_3_0
  | 1, _ => r4_3_2_3_1
  | 2, _ => r4_3_2_3_2
  | 3, _ => r4_3_2_3_3
  | m + 4, h => absurd h (by omega)
theorem rr4_3_2 (p2 p3 : Nat) (h2 : p2 < 4) (h3 : p3 < 4) : PR 4 [3, 2, p2, p3] := match p2, h2 with
  | 0, _ => rr4_3_2_0 p3 h3
  | 1, _ => rr4_3_2_1 p3 h3
  | 2, _ => rr4_3_2_2 p3 h3
  | 3, _ => rr4_3_2_3 p3 h3
  | m + 4, h => absurd h (by omega)
theorem rr4_3_3_0 (p3 : Nat) (h3 : p3 < 4) : PR 4 [3, 3, 0, p3] := match p3, h3 with
  | 0, _ => r4_3_3_0_0
  | 1, _ => r4_3_3_0_1
  | 2, _ => r4_3_3_0_2
  | 3, _ => r4_3_3_0_3
  | m + 4, h => absurd h (by omega)
theorem rr4_3_3_1 (p3 : Nat) (h3 : p3 < 4) : PR 4 [3, 3, 1, p3] := match p3, h3 with
  | 0, _ => r4_3_3_1_0
  | 1, _ => r4_3_3_1_1
  | 2, _ => r4_3_3_1_2
  | 3, _ => r4_3_3_1_3
  | m + 4, h => absurd h (by omega)
theorem rr4_3_3_2 (p3 : Nat) (h3 : p3 < 4) : PR 4 [3, 3, 2, p3] := match p3, h3 with
  | 0, _ => r4_3_3_2_0
  | 1, _ => r4_3_3_2_1
  | 2, _ => r4_3_3_2_2
  | 3, _ => r4_3_3_2_3
  | m + 4, h => absurd h (by omega)
theorem rr4_3_3_3 (p3 : Nat) (h3 : p3 < 4) : PR 4 [3, 3, 3, p3] := match p3, h3 with
  | 0, _ => r4_3_3_3_0
  | 1, _ => r4_3_3_3_1
  | 2, _ => r4_3_3_3_2
  | 3, _ => r4_3_3_3_3
  | m + 4, h => absurd h (by omega)
theorem rr4_3_3 (p2 p3 : Nat) (h2 : p2 < 4) (h3 : p3 < 4) : PR 4 [3, 3, p2, p3] := match p2, h2 with
  | 0, _ => rr4_3_3_0 p3 h3
  | 1, _ => rr4_3_3_1 p3 h3
  | 2, _ => rr4_3_3_2 p3 h3
  | 3, _ => rr4_3_3_3 p3 h3
  | m + 4, h => absurd h (by omega)
theorem rr4_3 (p1 p2 p3 : Nat) (h1 : p1 < 4) (h2 : p2 < 4) (h3 : p3 < 4) : PR 4 [3, p1, p2, p3] := match p1, h1 with
  | 0, _ => rr4_3_0 p2 p3 h2 h3
  | 1, _ => rr4_3_1 p2 p3 h2 h3
  | 2, _ => rr4_3_2 p2 p3 h2 h3
  | 3, _ => rr4_3_3 p2 p3 h2 h3
  | m + 4, h => absurd h (by omega)
theorem rr4 (p0 p1 p2 p3 : Nat) (h0 : p0 < 4) (h1 : p1 < 4) (h2 : p2 < 4) (h3 : p3 < 4) : PR 4 [p0, p1, p2, p3] := match p0, h0 with
  | 0, _ => rr4_0 p1 p2 p3 h1 h2 h3
  | 1, _ => rr4_1 p1 p2 p3 h1 h2 h3
  | 2, _ => rr4_2 p1 p2 p3 h1 h2 h3
  | 3, _ => rr4_3 p1 p2 p3 h1 h2 h3
  | m + 4, h => absurd h (by omega)
theorem rk4 (r : List Nat) (hl : r.length = 4) (ha : ∀ a ∈ r, a < 4) : PR 4 r := by
  match r, hl, ha with
  | [p0, p1, p2, p3], _, ha => exact rr4 p0 p1 p2 p3 (ha p0 (by simp)) (ha p1 (by simp)) (ha p2 (by simp)) (ha p3 (by simp))
end K84
end

section
set_option Elab.async false
set_option linter.all false
set_option maxRecDepth 100000
set_option maxHeartbeats 0
namespace K84
open PySem LH
theorem draw_at (ds : List Nat) (k : Nat) {m : Nat} (h : 0 < m) : L11 29 [.list (boxD ds k), .int (m : Int)] = some (.val (.int (drawn ds k m : Nat)), boxD ds (k + 1)) := by
  have e : L11 29 = fnSem true 2 3 msDraw := by
    show fnSem true 2 3 (mf29 L10) = _
    rw [← mf29_eq]; rfl
  rw [e]
  exact draw_spec ds k h
theorem box_at (ns : List Int) : ∃ ds : List Nat, L11 26 [.list (ns.map .int), .int 0, .int 62] = some (.tmp (boxD ds 0), []) := by
  have e8 : L9 28 = fnSem false 2 2 msCell := by
    show fnSem false 2 2 (mf28 L8) = _
    rw [← mf28_eq]; rfl
  have e7 : L10 27 = fnSem false 3 8 (msDigits (L9 28)) := by
    show fnSem false 3 8 (mf27 L9) = _
    rw [← mf27_eq]; rfl
  have e6 : L11 26 = fnSem false 3 3 (msBox (L10 27)) := by
    show fnSem false 3 3 (mf26 L10) = _
    rw [← mf26_eq]; rfl
  rw [e6]
  refine box_spec (m := 62) ?_
  rw [e7]
  refine digits_spec (fun k => ?_) 62 (by decide)
  rw [e8]
  exact cell_spec ns k
theorem drawE {S : D} {ds : List Nat} {k v n : Nat} {j9 j10 j11 j12 j13 j14 j15 j16 : Option SV} (hl : (w3 v).length = n) (hn : 0 < n) :
    (dOp2 fMod (dOp1 fInt (dCallIO (L11 29) 1 [(dVal (.int 1000))])) (dLen (dVar 3))) (E S (boxD ds k) v j9 j10 j11 j12 j13 j14 j15 j16) = some (.val (.int (drawn ds k 1000 % n : Nat)), (E S (boxD ds (k + 1)) v j9 j10 j11 j12 j13 j14 j15 j16)) := by
  have hz : (0 : Int) < (n : Int) := by omega
  have d : L11 29 [.list (boxD ds k), .int 1000] = some (.val (.int (drawn ds k 1000 : Nat)), boxD ds (k + 1)) := draw_at ds k (m := 1000) (by decide)
  have em : ((drawn ds k 1000 : Nat) : Int) % (n : Int) = ((drawn ds k 1000 % n : Nat) : Int) := by omega
  unfold E
  simp [dArgs, shares, share, d, lookO, look, fInt, fLenO, fLen, hl, fMod, hz, hn]
/-- draws in a row, in a comprehension -/
theorem draws_walk (a0 a2 a3 a4 a6 a7 a8 a9 a10 a11 a12 a13 a14 a15 a16 a17 a18 a19 a20 : Option SV) (ds : List Nat) : ∀ (xs : List D) (k : Nat) (x5 : Option SV), ∃ (r : List Nat) (y5 : Option SV), r.length = xs.length ∧ (∀ a ∈ r, a < 4) ∧
    walk (turn [5] (gNameN 5) (testAll []) (clauses (emit1 (dCallIO (L11 29) 1 [(dVal (.int 4))])) [])) xs [a0, some (.own (boxD ds k)), a2, a3, a4, x5, a6, a7, a8, a9, a10, a11, a12, a13, a14, a15, a16, a17, a18, a19, a20] = some (intsD r, [a0, some (.own (boxD ds (k + xs.length))), a2, a3, a4, y5, a6, a7, a8, a9, a10, a11, a12, a13, a14, a15, a16, a17, a18, a19, a20])
  | [], k, x5 => ⟨[], x5, rfl, fun a h => (List.not_mem_nil h).elim, rfl⟩
  | x :: xs, k, x5 => by
    obtain ⟨r, y5, h1, h2, h3⟩ := draws_walk a0 a2 a3 a4 a6 a7 a8 a9 a10 a11 a12 a13 a14 a15 a16 a17 a18 a19 a20 ds xs (k + 1) (some (.val x))
    refine ⟨drawn ds k 4 :: r, y5, by rw [List.length_cons, h1, List.length_cons], fun a ha => ?_, ?_⟩
    · rcases List.mem_cons.mp ha with rfl | ha
      · exact drawn_lt ds k (by decide)
      · exact h2 a ha
    · have d : L11 29 [.list (boxD ds k), .int 4] = some (.val (.int (drawn ds k 4 : Nat)), boxD ds (k + 1)) := draw_at ds k (m := 4) (by decide)
      have e : turn [5] (gNameN 5) (testAll []) (clauses (emit1 (dCallIO (L11 29) 1 [(dVal (.int 4))])) []) x [a0, some (.own (boxD ds k)), a2, a3, a4, x5, a6, a7, a8, a9, a10, a11, a12, a13, a14, a15, a16, a17, a18, a19, a20] = some ([.int (drawn ds k 4 : Nat)], [a0, some (.own (boxD ds (k + 1))), a2, a3, a4, some (.val x), a6, a7, a8, a9, a10, a11, a12, a13, a14, a15, a16, a17, a18, a19, a20]) := by
        rw [gNameN_eq]
        simp [turn, wipeE, gName, canSet, clauses, emit1, dArgs, shares, share, d]
      unfold walk
      rw [e]
      dsimp only
      rw [h3]
      dsimp only
      rw [List.length_cons, show k + 1 + xs.length = k + (xs.length + 1) by omega]
      rfl
theorem drawsE_run {S : D} {ds : List Nat} {k v : Nat} {j9 j10 j11 j12 j13 j14 j15 j16 : Option SV} (hv : v ≤ 4) : ∃ r : List Nat, r.length = v ∧ (∀ a ∈ r, a < 4) ∧ drawsE (E S (boxD ds k) v j9 j10 j11 j12 j13 j14 j15 j16) = some (.val (.tuple (intsD r)), (E S (boxD ds (k + v)) v j9 j10 j11 j12 j13 j14 j15 j16)) := by
  have hm : mRng1 (dVar 2) (E S (boxD ds k) v j9 j10 j11 j12 j13 j14 j15 j16) = some (rngL 0 (v : Int), (E S (boxD ds k) v j9 j10 j11 j12 j13 j14 j15 j16)) := by
    exact rng1_run rfl (small_nat (by omega))
  obtain ⟨r, y5, h1, h2, h3⟩ := draws_walk (some (.val S)) (some (.val (.int v))) (some (.val (.list (w3 v)))) (some (.own (w4 v))) (some (.val (w6 v))) (some (.val (w7 v))) (some (.own (w8 v))) j9 j10 j11 j12 j13 j14 j15 j16 none none none none ds (rngL 0 (v : Int)) k none
  rw [rngL_len] at h1 h3
  refine ⟨r, h1, h2, ?_⟩
  have hc : dComp [5] (dCallIO (L11 29) 1 [(dVal (.int 4))]) (mRng1 (dVar 2)) (gNameN 5) (testAll []) [] (E S (boxD ds k) v j9 j10 j11 j12 j13 j14 j15 j16) = some (.tmp (intsD r), (E S (boxD ds (k + v)) v j9 j10 j11 j12 j13 j14 j15 j16)) := by
    exact comp_run hm h3 (by rw [intsD_all, h1]; exact lim_nat (by omega))
  exact eat_run (seq_tmp hc) rfl
def Inv (S : D) (v : Nat) (ρ : LH.Env) : Prop := ∃ (ds : List Nat) (k : Nat) (j9 j10 j11 j12 j13 j14 j15 j16 : Option SV), ρ = (E S (boxD ds k) v j9 j10 j11 j12 j13 j14 j15 j16) ∧ canSet j9 = true ∧ canSet j10 = true ∧ canSet j11 = true ∧ canSet j12 = true ∧ canSet j13 = true ∧ canSet j14 = true ∧ canSet j15 = true ∧ canSet j16 = true
theorem turn_run {S : D} {v n : Nat} {ρ : LH.Env} (hl : (w3 v).length = n) (hn : 0 < n) (hv : v ≤ 4) (ha : ∀ x, x < n → PA v x) (hb : ∀ x y, x < n → y < n → PB v x y) (hr : ∀ r : List Nat, r.length = v → (∀ a ∈ r, a < 4) → PR v r) (I : Inv S v ρ) : ∃ ρ', turnS ρ = some (.nx, ρ') ∧ Inv S v ρ' := by
  obtain ⟨ds, k, j9, j10, j11, j12, j13, j14, j15, j16, rfl, q9, q10, q11, q12, q13, q14, q15, q16⟩ := I
  have hx : drawn ds k 1000 % n < n := Nat.mod_lt _ hn
  have hy : drawn ds (k + 1) 1000 % n < n := Nat.mod_lt _ hn
  obtain ⟨a1, a2, a3⟩ := ha _ hx S (boxD ds (k + 1 + 1)) j9 (some (.val (.int (drawn ds (k + 1) 1000 % n : Nat)))) j12 j13 j14 j15 j16
  obtain ⟨b1, _, _, _, _, _⟩ := hb _ _ hx hy S (boxD ds (k + 1 + 1)) j9 j12 j13 j14 j15 j16
  obtain ⟨_, b2, b3, b4, b5, b6⟩ := hb _ _ hx hy S (boxD ds (k + 1 + 1)) j9 j12 j13 j14 j15 j16
  obtain ⟨r, r1, r2, r3⟩ := drawsE_run (S := S) (ds := ds) (k := k + 1 + 1) (v := v) (j9 := j9) (j10 := some (.val (.int (drawn ds k 1000 % n : Nat)))) (j11 := some (.val (.int (drawn ds (k + 1) 1000 % n : Nat)))) (j12 := some (.val (.list (g12 v (drawn ds k 1000 % n) (drawn ds (k + 1) 1000 % n))))) (j13 := some (.own (g13 v (drawn ds k 1000 % n) (drawn ds (k + 1) 1000 % n)))) (j14 := some (.val (.list (g14 v (drawn ds k 1000 % n) (drawn ds (k + 1) 1000 % n))))) (j15 := some (.own (g15 v (drawn ds k 1000 % n) (drawn ds (k + 1) 1000 % n)))) (j16 := j16) hv
  have cc := hr r r1 r2 S (boxD ds (k + 1 + 1 + v)) j9 (some (.val (.int (drawn ds k 1000 % n : Nat)))) (some (.val (.int (drawn ds (k + 1) 1000 % n : Nat)))) (some (.val (.list (g12 v (drawn ds k 1000 % n) (drawn ds (k + 1) 1000 % n))))) (some (.own (g13 v (drawn ds k 1000 % n) (drawn ds (k + 1) 1000 % n)))) (some (.val (.list (g14 v (drawn ds k 1000 % n) (drawn ds (k + 1) 1000 % n))))) (some (.own (g15 v (drawn ds k 1000 % n) (drawn ds (k + 1) 1000 % n))))
  refine ⟨E S (boxD ds (k + 1 + 1 + v)) v j9 (some (.val (.int (drawn ds k 1000 % n : Nat)))) (some (.val (.int (drawn ds (k + 1) 1000 % n : Nat)))) (some (.val (.list (g12 v (drawn ds k 1000 % n) (drawn ds (k + 1) 1000 % n))))) (some (.own (g13 v (drawn ds k 1000 % n) (drawn ds (k + 1) 1000 % n)))) (some (.val (.list (g14 v (drawn ds k 1000 % n) (drawn ds (k + 1) 1000 % n))))) (some (.own (g15 v (drawn ds k 1000 % n) (drawn ds (k + 1) 1000 % n)))) (some (.val (.tuple (intsD r)))), ?_, ⟨ds, k + 1 + 1 + v, _, _, _, _, _, _, _, _, rfl, q9, rfl, rfl, rfl, rfl, rfl, rfl, rfl⟩⟩
  unfold turnS
  refine seq_nx (asg_val (drawE hl hn) (by unfold E; simp) (show canSet j10 = true from q10)) ?_
  refine seq_nx (asg_val (drawE (j10 := some (.val (.int (drawn ds k 1000 % n : Nat)))) hl hn) (by unfold E; simp) (show canSet j11 = true from q11)) ?_
  refine seq_nx (no_run a1) (seq_nx (no_run a2) (seq_nx (no_run a3) ?_))
  refine seq_nx (asg_tmp b1 (by unfold E; simp) (show canSet j12 = true from q12)) ?_
  refine seq_nx (asg_tmp b2 (by unfold E; simp) (show canSet j13 = true from q13)) ?_
  refine seq_nx (asg_tmp b3 (by unfold E; simp) (show canSet j14 = true from q14)) ?_
  refine seq_nx (asg_tmp b4 (by unfold E; simp) (show canSet j15 = true from q15)) ?_
  refine seq_nx (no_run b5) (seq_nx (no_run b6) ?_)
  refine seq_nx (asg_val r3 (by unfold E; simp) (show canSet j16 = true from q16)) ?_
  exact no_run cc
theorem rest {S : D} {ds : List Nat} {k v n : Nat} (hl : (w3 v).length = n) (hn : 0 < n) (hv : v ≤ 4) (hp : PP v) (ha : ∀ x, x < n → PA v x) (hb : ∀ x y, x < n → y < n → PB v x y) (hr : ∀ r : List Nat, r.length = v → (∀ a ∈ r, a < 4) → PR v r) :
    ∃ ρ, seqs pre (sSeq (sFor (gNameN 9) (mRng1 (dVal (.int 3))) turnS) (sRet (dVal (.bool true)))) [some (.val S), some (.own (boxD ds k)), some (.val (.int v)), none, none, none, none, none, none, none, none, none, none, none, none, none, none, none, none, none, none] = some (.ret (.val (.bool true)), ρ) := by
  rw [seqs_run (hp S (boxD ds k))]
  obtain ⟨ρ', h1, h2⟩ := forL_inv (g := gNameN 9) (body := turnS) (fun _ ρ => Inv S v ρ) (xs := rngL 0 3) (n := 0) (ρ := E S (boxD ds k) v none none none none none none none none)
    ⟨ds, k, _, _, _, _, _, _, _, _, rfl, rfl, rfl, rfl, rfl, rfl, rfl, rfl, rfl⟩ fun i x ρ hx hI => by
    obtain ⟨ds, k, j9, j10, j11, j12, j13, j14, j15, j16, rfl, q9, q10, q11, q12, q13, q14, q15, q16⟩ := hI
    obtain ⟨ρ2, t1, t2⟩ := turn_run hl hn hv ha hb hr (show Inv S v (E S (boxD ds k) v (some (.val x)) j10 j11 j12 j13 j14 j15 j16) from ⟨ds, k, _, _, _, _, _, _, _, _, rfl, rfl, q10, q11, q12, q13, q14, q15, q16⟩)
    refine ⟨E S (boxD ds k) v (some (.val x)) j10 j11 j12 j13 j14 j15 j16, .nx, ρ2, ?_, t1, .inl rfl, t2⟩
    rw [gNameN_eq]; unfold E; simp [gName, q9]
  have q : mRng1 (dVal (.int 3)) (E S (boxD ds k) v none none none none none none none none) = some (rngL 0 3, E S (boxD ds k) v none none none none none none none none) := rng1_run rfl rfl
  exact ⟨ρ', seq_nx (for_run q h1) rfl⟩
theorem law_run (ns : List Int) : LH.semOf (LH.fnAt rows 12) r38 [.list (ns.map .int)] = some (.val (.bool true), []) := by
  rw [tr38 11, sm11, mf38_eq, law_text]
  obtain ⟨ds, hb⟩ := box_at ns
  have hv := drawn_lt ds 0 (m := 5) (by decide)
  have d' : L11 29 [.list (boxD ds 0), .int 5] = some (.val (.int (drawn ds 0 5 : Nat)), boxD ds 1) := draw_at ds 0 (m := 5) (by decide)
  have e1 : sAsgN 1 (dCallN (L11 26) [(dVar 0), (dVal (.int 0)), (dVal (.int 62))]) [some (.val (.list (ns.map .int))), none, none, none, none, none, none, none, none, none, none, none, none, none, none, none, none, none, none, none, none] = some (.nx, [some (.val (.list (ns.map .int))), some (.own (boxD ds 0)), none, none, none, none, none, none, none, none, none, none, none, none, none, none, none, none, none, none, none]) := by
    rw [sAsgN_eq, dCallN_eq]
    simp [dArgs, shares, share, hb, put, canSet]
  have e2 : sAsgN 2 (dCallIO (L11 29) 1 [(dVal (.int 5))]) [some (.val (.list (ns.map .int))), some (.own (boxD ds 0)), none, none, none, none, none, none, none, none, none, none, none, none, none, none, none, none, none, none, none] = some (.nx, [some (.val (.list (ns.map .int))), some (.own (boxD ds 1)), some (.val (.int (drawn ds 0 5 : Nat))), none, none, none, none, none, none, none, none, none, none, none, none, none, none, none, none, none, none]) := by
    rw [sAsgN_eq]
    simp [dArgs, shares, share, d', put, canSet]
  have key : ∃ ρ, seqs pre (sSeq (sFor (gNameN 9) (mRng1 (dVal (.int 3))) turnS) (sRet (dVal (.bool true)))) [some (.val (.list (ns.map .int))), some (.own (boxD ds 1)), some (.val (.int (drawn ds 0 5 : Nat))), none, none, none, none, none, none, none, none, none, none, none, none, none, none, none, none, none, none] = some (.ret (.val (.bool true)), ρ) := by
    revert hv
    generalize drawn ds 0 5 = v
    intro hv
    match v, hv with
    | 0, _ => exact rest len0 (by decide) (by decide) pre0 a0 b0 rk0
    | 1, _ => exact rest len1 (by decide) (by decide) pre1 a1 b1 rk1
    | 2, _ => exact rest len2 (by decide) (by decide) pre2 a2 b2 rk2
    | 3, _ => exact rest len3 (by decide) (by decide) pre3 a3 b3 rk3
    | 4, _ => exact rest len4 (by decide) (by decide) pre4 a4 b4 rk4
    | n + 5, h => exact absurd h (by omega)
  obtain ⟨ρ, key⟩ := key
  exact fn_ret (ρ := ρ) rfl (seq_nx e1 (seq_nx e2 key))
end K84
set_option Elab.async false
theorem PySem.Challenge.cw_latticehouse_k84_brackets_are_a_lattice_holds : PySem.Challenge.rw_latticehouse_k84_brackets_are_a_lattice.Holds :=
  K84.holds_of 12 ⟨rfl, by decide, by decide⟩ fun ns _ _ => K84.law_run ns
end

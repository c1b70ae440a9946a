import PyProof.Rows.All
import PySem.Syntax
import PySem.Value
import PyProof.Raises
import PyProof.Calls
import PyProof.EvalArms
import PyProof.Rules2
import PyProof.FactsAll.str_5
import PyProof.FactsAll.list_0
import PyProof.FactsAll.list_3
import PyProof.MakeMany
import PyProof.TupleIter
import PyProof.AutoSeq1
import PyProof.FString5
import PyProof.CallFns
import PyProof.SliceSyntax
import PyProof.SliceList
import PyProof.ForAny
import PyProof.CallRoads
import PyProof.Cells
import PyProof.CompUse
import PyProof.PlainList
import PyProof.ConsumeWalk
import PyProof.StrWalks
import PyProof.CompFree
import PyProof.PureInt
import PyProof.Conv_int_bool
import PyProof.DefCall
import PyProof.DictKinds
import PyProof.EnumIter
import PyProof.EnumMake
import PyProof.IsRules
import PyProof.P3Statements
import PyProof.P3Eq
import PyProof.EqLayable
import PyProof.StrLaws
import PyProof.StrOps
import PyProof.StrBlock
import PyProof.RangeIter
import PyProof.WalksMore
import PyProof.RangeFor
import PyProof.IsiNone
import PyProof.IsiPairs
import PyProof.IsiSeqPairs
import PyProof.IsiTupleAll
import PyProof.ListCopy
import PyProof.ListIndexNeg
import PyProof.ListTruth
import PyProof.WalkInts
import PyProof.P3In
import PyProof.Rows.News
import PyProof.Rows.Tup
import PyProof.Rows.Lst
import PyProof.Rows.IntRules
import PyProof.Rows.SetObj
import PyProof.ZipIter
import PyProof.Truth
import PyProof.Rows.StrJoin2
import PyProof.Rows.Exc
import PyProof.Rows.Top
import PyProof.Rows.Chain
import PyProof.Rows.Nodes
import PyProof.Rows.RuleB_mul
import PyProof.Rows.RuleB_pow
import PyProof.Rows.RuleB_floordiv
import PyProof.Rows.RuleB_mod
import PyProof.Rows.StrTemp
import PyProof.Rows.RuleN_abs
import PyProof.Rows.TupMore
import PyProof.SliceMore
import PyProof.TupleOfSeq
import PyProof.Rows.SetFrom
import KE.KItem
import KE.KSortTup
import Wide.FinOn
import OpenK.AllK
import Wide.All
import PySem.Challenge.RW_uf010020_02
set_option Elab.async false
section
set_option autoImplicit false
namespace Mine
open PySem

/-- clean values: tuples, frozen lists and frozen dicts by value; `ref i`: the i-th box -/
inductive V where
  | none
  | bool (b : Bool)
  | int (i : Int)
  | str (s : Str)
  | tup (xs : List V)
  | lst (xs : List V)
  | ref (i : Nat)


noncomputable instance instDecV : DecidableEq V := fun a b => Classical.propDecidable (a = b)

/-- boxed (mutable) objects -/
inductive O where
  | list (xs : List V)
noncomputable instance instDecO : DecidableEq O := fun a b => Classical.propDecidable (a = b)

set_option genSizeOf false
set_option genInjectivity false
inductive Ty where
  | int | bool | str | tuple | list
deriving DecidableEq

inductive Prim where
  | len | all | tuple | join | setlen | intOf | min | isinst (ts : List Ty)

inductive Eff where
  | append | clear | setItem

inductive T where
  | slot (i : Nat)
  | tup (is : List Nat)

mutual
inductive E where
  | var (i : Nat)
  | const (v : V)
  | bin (op : Operator) (a b : E)
  | not (a : E)
  | and (es : List E)
  | or (es : List E)
  | cmp (a : E) (ops : List CmpOp) (es : List E)
  | tup (es : List E)
  | sub (a i : E)
  | call (f : Nat) (args : List E)
  | prim (p : Prim) (args : List E)
  | eff (m : Eff) (args : List E)
  | frz (l : L)
  | box (l : L)
inductive L where
  | disp (es : List E)
  | comp (t : T) (it : It) (ifs : List E) (elt : E)
  | listOf (e : E)
  | sorted (e : E)
  | slice (a : E) (lo hi : Option E)
  | call (f : Nat) (args : List E)
inductive It where
  | of (e : E)
  | range (e : E)
  | zip (a b : E)
end

inductive S where
  | assign (t : T) (e : E)
  | expr (e : E)
  | setItem (e a i : E)
  | iff (c : E) (t e : List S)
  | forr (t : T) (it : It) (body : List S)
  | ret (e : E)
  | stuck

noncomputable abbrev Loc := List (Option V)
noncomputable abbrev Hp := List O

inductive Fl where
  | next | ret (v : V)

/-- size lid for lists and texts made on the way -/
noncomputable def lid : Nat := 1100000

noncomputable def V.items (H : Hp) : V → Option (List V)
  | .tup xs => some xs
  | .lst xs => some xs
  | .ref i => match H[i]? with | some (.list xs) => some xs | _ => Option.none
  | _ => Option.none

noncomputable def truthyV (H : Hp) : V → Option Bool
  | .none => some false
  | .bool b => some b
  | .int i => some (i != 0)
  | .str s => if s.length ≤ lid then some (s.length != 0) else none
  | v => match v.items H with
    | some xs => if xs.length ≤ lid then some (!xs.isEmpty) else none
    | none => none

noncomputable def intBits (x : Int) : Nat := if x == 0 then 0 else x.natAbs.log2 + 1

noncomputable def ibin : Operator → Int → Int → Option Int
  | .Add, x, y => some (x + y)
  | .Sub, x, y => some (x - y)
  | .Mult, x, y => if intBits x + intBits y ≤ 134217728 then some (x * y) else none
  | .FloorDiv, x, y => if 0 < y ∧ y < 1073741824 then some (x.fdiv y) else none
  | .Mod, x, y => if 0 < y then some (x.fmod y) else none
  | .Pow, x, y => if y = 3 ∧ intBits x * 3 ≤ 134217728 then some (x ^ 3) else none
  | _, _, _ => none

/-- codepoint order -/
noncomputable def strLt (a b : Str) : Bool := decide (a.cps.toList < b.cps.toList)


noncomputable def mapO {α β : Type} (f : α → Option β) : List α → Option (List β)
  | [] => some []
  | x :: xs => match f x with
    | some y => match mapO f xs with
      | some ys => some (y :: ys)
      | none => none
    | none => none

/-- the data that a value stands for -/
noncomputable def toPy (H : Hp) : Nat → V → Option PyData
  | _, .none => some .none
  | _, .bool b => some (.bool b)
  | _, .int i => some (.int i)
  | _, .str s => some (.str s)
  | k + 1, .tup xs => (mapO (toPy H k) xs).map .tuple
  | k + 1, .lst xs => (mapO (toPy H k) xs).map .list
  | k + 1, .ref i => match H[i]? with
    | some (.list xs) => (mapO (toPy H k) xs).map .list
    | _ => none
  | _, _ => none

noncomputable def depthE : Nat := 12

noncomputable def shp (d : PyData) : Bool := d.canLay0 && decide (d.depth ≤ 64)

/-- == -/
noncomputable def veq (H : Hp) (a b : V) : Option Bool := match a, b with
  | .none, .none => some true
  | .bool a, .bool b => some (a == b)
  | .int a, .int b => some (a == b)
  | .str a, .str b => some (a == b)
  | a, b => match toPy H depthE a, toPy H depthE b with
    | some x, some y => if shp x && shp y then some (PyData.eqv x y) else none
    | _, _ => none

noncomputable def inV (H : Hp) (a b : V) : Option Bool := match b with
  | .str t => match a with
    | .str s => some (Txt.contains t s)
    | _ => none
  | b => match toPy H depthE a, toPy H depthE b with
    | some x, some (.list ys) => if shp x && shp (.list ys) then some (ys.any fun y => PyData.eqv y x) else none
    | some x, some (.tuple ys) => if shp x && shp (.tuple ys) then some (ys.any fun y => PyData.eqv y x) else none
    | _, _ => none

noncomputable def cmpV (H : Hp) : CmpOp → V → V → Option Bool
  | .Lt, .int a, .int b => some (decide (a < b))
  | .LtE, .int a, .int b => some (decide (a ≤ b))
  | .Gt, .int a, .int b => some (decide (b < a))
  | .GtE, .int a, .int b => some (decide (b ≤ a))
  | .LtE, .str a, .str b => some (!strLt b a)
  | .Eq, a, b => veq H a b
  | .NotEq, a, b => (veq H a b).map (!·)
  | .Is, a, .none => some (decide (a = .none))
  | .Is, a, .bool b => some (decide (a = .bool b))
  | .IsNot, a, .none => some (!decide (a = .none))
  | .IsNot, a, .bool b => some (!decide (a = .bool b))
  | .In, a, b => inV H a b
  | .NotIn, a, b => (inV H a b).map (!·)
  | _, _, _ => none

noncomputable def binV (op : Operator) (a b : V) : Option V := match a, b with
  | .int x, .int y => (ibin op x y).map .int
  | _, _ => none

noncomputable def idx (i : Int) (n : Nat) : Option Nat := if 0 ≤ i ∧ i < n ∧ i < 9223372036854775808 then some i.toNat else none

noncomputable def subV (H : Hp) : V → V → Option V
  | .str s, .int i => if fitsSsize i = true ∧ (Txt.charAt s i).isSome = true then some (.str (Txt.item s i)) else none
  | a, .int i => match a.items H with
    | some xs => match idx i xs.length with
      | some k => xs[k]?
      | none => none
    | none => none
  | _, _ => none

noncomputable def isTy : Ty → V → Bool
  | .int, .int _ => true
  | .int, .bool _ => true
  | .bool, .bool _ => true
  | .str, .str _ => true
  | .tuple, .tup _ => true
  | .list, .lst _ => true
  | _, _ => false
noncomputable def isTyH (H : Hp) : Ty → V → Option Bool
  | t, .ref i => match H[i]? with
    | some (.list _) => some (t = .list)
    | _ => none
  | t, v => some (isTy t v)

noncomputable def allO {α : Type} (f : α → Option Bool) : List α → Option Bool
  | [] => some true
  | x :: xs => match f x with
    | some true => allO f xs
    | r => r
noncomputable def anyO {α : Type} (f : α → Option Bool) : List α → Option Bool
  | [] => some false
  | x :: xs => match f x with
    | some false => anyO f xs
    | r => r

noncomputable def strsOf : List V → Option (List Str)
  | [] => some []
  | .str s :: r => (strsOf r).map (s :: ·)
  | _ :: _ => none

noncomputable def boolsOf : List V → Option (List Bool)
  | [] => some []
  | .bool b :: r => (boolsOf r).map (b :: ·)
  | _ :: _ => none

noncomputable def lenV (H : Hp) : List V → Option V
  | [.str s] => if s.length ≤ lid then some (.int s.length) else none
  | [v] => match v.items H with
    | some xs => if xs.length ≤ lid then some (.int xs.length) else none
    | none => none
  | _ => none
noncomputable def allV (H : Hp) : List V → Option V
  | [v] => match v.items H with
    | some xs => (boolsOf xs).map fun bs => .bool (bs.all id)
    | none => none
  | _ => none
noncomputable def tupleV (H : Hp) : List V → Option V
  | [.tup _] => none
  | [v] => match v.items H with
    | some xs => if xs.length ≤ lid then some (.tup xs) else none
    | none => none
  | _ => none
noncomputable def joinV (H : Hp) : List V → Option V
  | [.tup _] => none
  | [v] => match v.items H with
    | some xs => match strsOf xs with
      | some ss => if (ss.map (·.length)).sum ≤ lid then some (.str (Str.join (Str.ofString "") ss)) else none
      | none => none
    | none => none
  | _ => none
noncomputable def sdd (σ : List Str) (v : Str) : List Str := if σ.any (· == v) then σ else σ ++ [v]
noncomputable def setlenV (H : Hp) : List V → Option V
  | [.tup _] => none
  | [v] => match v.items H with
    | some xs => match strsOf xs with
      | some ss => if ss.length ≤ 6 then some (.int (ss.foldl sdd []).length) else none
      | none => none
    | none => none
  | _ => none
noncomputable def intOfV : List V → Option V
  | [.bool b] => some (.int (if b then 1 else 0))
  | _ => none
noncomputable def minV : List V → Option V
  | [.int a, .int b] => some (.int (if b < a then b else a))
  | _ => none
noncomputable def isinstV (H : Hp) (ts : List Ty) : List V → Option V
  | [v] => (anyO (fun t => isTyH H t v) ts).map .bool
  | _ => none
noncomputable def primV (H : Hp) : Prim → List V → Option V
  | .len, vs => lenV H vs
  | .all, vs => allV H vs
  | .tuple, vs => tupleV H vs
  | .join, vs => joinV H vs
  | .setlen, vs => setlenV H vs
  | .intOf, vs => intOfV vs
  | .min, vs => minV vs
  | .isinst ts, vs => isinstV H ts vs

noncomputable def appendV (H : Hp) : List V → Option (V × Hp)
  | [.ref i, v] => match H[i]? with
    | some (.list xs) => if xs.length ≤ lid then some (.none, H.set i (.list (xs ++ [v]))) else none
    | _ => none
  | _ => none
noncomputable def clearV (H : Hp) : List V → Option (V × Hp)
  | [.ref i] => match H[i]? with
    | some (.list xs) => if xs.length ≤ lid then some (.none, H.set i (.list [])) else none
    | _ => none
  | _ => none
noncomputable def setItemV (H : Hp) : List V → Option (V × Hp)
  | [v, .ref i, .int k] => match H[i]? with
    | some (.list xs) => if 0 ≤ k ∧ k < xs.length ∧ k < 9223372036854775808 then some (.none, H.set i (.list (xs.set k.toNat v))) else none
    | _ => none
  | _ => none
noncomputable def effV (H : Hp) : Eff → List V → Option (V × Hp)
  | .append, vs => appendV H vs
  | .clear, vs => clearV H vs
  | .setItem, vs => setItemV H vs

/-- order for sorting: texts, or pairs of a text and an int -/
noncomputable def pairOf : V → Option (Str × Int)
  | .tup xs => (match xs with
    | [a, b] => (match a with
      | .str a => (match b with
        | .int i => some (a, i)
        | _ => none)
      | _ => none)
    | _ => none)
  | _ => none
noncomputable def sltV (x y : V) : Bool := match pairOf x with
  | some p => (match pairOf y with
    | some q => if p.1 = q.1 then decide (p.2 < q.2) else strLt p.1 q.1
    | none => false)
  | none => false
noncomputable def isStrV : V → Bool
  | .str _ => true
  | _ => false
noncomputable def isPairV (v : V) : Bool := (pairOf v).isSome
/-- the sort's questions, answered -/
noncomputable def runT {α : Type} (ans : Nat → Nat → Bool) : PySem.W.KasT α → α
  | .ret a => a
  | .ask i j k => runT ans (k (ans i j))
noncomputable def permV (xs : List V) : List Nat := (runT (fun i j => sltV (xs.getD i .none) (xs.getD j .none)) (PySem.W.kas_sort xs.length)).toList
noncomputable def sins (x : Str) : List Str → List Str
  | [] => [x]
  | y :: ys => if strLt y x then y :: sins x ys else x :: y :: ys
noncomputable def ssort : List Str → List Str
  | [] => []
  | x :: xs => sins x (ssort xs)
noncomputable def sortV (xs : List V) : Option (List V) :=
  if xs.length < 64 then match strsOf xs with
    | some ss => some ((ssort ss).map V.str)
    | none => if xs.all isPairV then (if xs.length < 2 then some xs else some ((permV xs).map fun i => xs.getD i .none)) else none
  else none

noncomputable def rangeV (n : Int) : List V := (List.range n.toNat).map fun (k : Nat) => V.int (k : Int)

noncomputable def bindSlots : List Nat → List V → Loc → Option Loc
  | [], [], ρ => some ρ
  | i :: is, v :: vs, ρ => if i < ρ.length then bindSlots is vs (ρ.set i (some v)) else none
  | _, _, _ => none
noncomputable def bindT (t : T) (v : V) (ρ : Loc) : Option Loc := match t with
  | .slot i => if i < ρ.length then some (ρ.set i (some v)) else none
  | .tup is => match v with
    | .tup vs => bindSlots is vs ρ
    | _ => none

noncomputable def compL (f : V → Option (Option V)) : List V → Option (List V)
  | [] => some []
  | x :: xs => match f x with
    | none => none
    | some r => match compL f xs with
      | none => none
      | some rs => some (match r with | none => rs | some v => v :: rs)

noncomputable def forL (step : V → Loc → Hp → Option (Fl × Loc × Hp)) (G : List Nat) (H0 : Hp) : List V → Loc → Hp → Option (Fl × Loc × Hp)
  | [], ρ, H => if G.all (fun i => decide (H[i]? = H0[i]?)) then some (.next, ρ, H) else none
  | x :: xs, ρ, H => if G.all (fun i => decide (H[i]? = H0[i]?)) then match step x ρ H with
      | some (.next, ρ', H') => forL step G H0 xs ρ' H'
      | r => r
    else none

noncomputable def zipV : List V → List V → List V
  | a :: as, b :: bs => .tup [a, b] :: zipV as bs
  | _, _ => []
noncomputable def guardOf : V → List Nat
  | .ref i => [i]
  | _ => []
/-- the items of what a for goes through -/
noncomputable def iterV (H : Hp) : V → Option (List V)
  | .str s => some (s.cps.toList.map fun c => .str ⟨#[c]⟩)
  | .ref i => match H[i]? with | some (.list xs) => some xs | _ => none
  | .tup xs => some xs
  | .lst xs => some xs
  | _ => none

noncomputable def frzO : O → Option V
  | .list xs => some (.lst xs)

noncomputable def sliceV (H : Hp) (v l h : V) : Option (List V) := match v with
  | .tup _ => none
  | v => match v.items H with
    | some xs => if xs.length ≤ lid then (match l, h with
      | .none, .int k => if 0 ≤ k then some (xs.take k.toNat) else none
      | .int k, .none => if 0 ≤ k then some (xs.drop k.toNat) else none
      | .int j, .int k => if 0 ≤ j ∧ j ≤ k ∧ k ≤ xs.length then some ((xs.drop j.toNat).take (k.toNat - j.toNat)) else none
      | _, _ => none) else none
    | none => none

structure Ctx where
  F : Nat → List V → Hp → Option (V × Bool × Hp)
  fuel : Nat

mutual
noncomputable def evalE (c : Ctx) : E → Loc → Hp → Option (V × Hp)
  | .var i, ρ, H => match ρ[i]? with
    | some (some v) => some (v, H)
    | _ => none
  | .const v, _, H => some (v, H)
  | .bin op a b, ρ, H => match evalE c a ρ H with
    | some (x, H1) => match evalE c b ρ H1 with
      | some (y, H2) => (binV op x y).map fun v => (v, H2)
      | none => none
    | none => none
  | .not a, ρ, H => match evalE c a ρ H with
    | some (x, H1) => (truthyV H1 x).map fun b => (.bool (!b), H1)
    | none => none
  | .and es, ρ, H => evalAnd c es ρ H
  | .or es, ρ, H => evalOr c es ρ H
  | .cmp a ops es, ρ, H => match evalE c a ρ H with
    | some (x, H1) => (evalCmp c x ops es ρ H1).map fun (b, H2) => (.bool b, H2)
    | none => none
  | .tup es, ρ, H => (evalEs c es ρ H).map fun (vs, H1) => (.tup vs, H1)
  | .sub a i, ρ, H => match evalE c a ρ H with
    | some (x, H1) => match evalE c i ρ H1 with
      | some (y, H2) => (subV H2 x y).map fun v => (v, H2)
      | none => none
    | none => none
  | .call f args, ρ, H => match evalEs c args ρ H with
    | some (vs, H1) => match c.F f vs H1 with
      | some (v, _, H2) => some (v, H2)
      | none => none
    | none => none
  | .prim p args, ρ, H => match evalEs c args ρ H with
    | some (vs, H1) => (primV H1 p vs).map fun v => (v, H1)
    | none => none
  | .eff m args, ρ, H => match evalEs c args ρ H with
    | some (vs, H1) => effV H1 m vs
    | none => none
  | .frz l, ρ, H => match evalL c l ρ H with
    | some (o, H1) => (frzO o).map fun v => (v, H1)
    | none => none
  | .box l, ρ, H => match evalL c l ρ H with
    | some (o, H1) => some (.ref H1.length, H1 ++ [o])
    | none => none
noncomputable def evalEs (c : Ctx) : List E → Loc → Hp → Option (List V × Hp)
  | [], _, H => some ([], H)
  | e :: es, ρ, H => match evalE c e ρ H with
    | some (v, H1) => match evalEs c es ρ H1 with
      | some (vs, H2) => some (v :: vs, H2)
      | none => none
    | none => none
noncomputable def evalAnd (c : Ctx) : List E → Loc → Hp → Option (V × Hp)
  | [], _, _ => none
  | [e], ρ, H => evalE c e ρ H
  | e :: es, ρ, H => match evalE c e ρ H with
    | some (v, H1) => match truthyV H1 v with
      | some true => evalAnd c es ρ H1
      | some false => some (v, H1)
      | none => none
    | none => none
noncomputable def evalOr (c : Ctx) : List E → Loc → Hp → Option (V × Hp)
  | [], _, _ => none
  | [e], ρ, H => evalE c e ρ H
  | e :: es, ρ, H => match evalE c e ρ H with
    | some (v, H1) => match truthyV H1 v with
      | some true => some (v, H1)
      | some false => evalOr c es ρ H1
      | none => none
    | none => none
noncomputable def evalCmp (c : Ctx) (x : V) : List CmpOp → List E → Loc → Hp → Option (Bool × Hp)
  | [op], [e], ρ, H => match evalE c e ρ H with
    | some (y, H1) => (cmpV H1 op x y).map fun b => (b, H1)
    | none => none
  | op :: ops, e :: es, ρ, H => match evalE c e ρ H with
    | some (y, H1) => match cmpV H1 op x y with
      | some true => evalCmp c y ops es ρ H1
      | some false => some (false, H1)
      | none => none
    | none => none
  | _, _, _, _ => none
noncomputable def evalL (c : Ctx) : L → Loc → Hp → Option (O × Hp)
  | .disp es, ρ, H => (evalEs c es ρ H).map fun (vs, H1) => (.list vs, H1)
  | .comp t it ifs elt, ρ, H => match evalIt c it ρ H with
    | some (xs, _, H1) => (compL (fun x => match bindT t x ρ with
        | some ρ' => match evalIfs c ifs ρ' H1 with
          | some true => match evalE c elt ρ' H1 with
            | some (v, H2) => if H2 = H1 then some (some v) else none
            | none => none
          | some false => some none
          | none => none
        | none => none) xs).bind fun vs => if vs.length ≤ lid then some (.list vs, H1) else none
    | none => none
  | .listOf e, ρ, H => match evalE c e ρ H with
    | some (v, H1) => (v.items H1).bind fun xs => if xs.length ≤ lid then some (.list xs, H1) else none
    | none => none
  | .sorted e, ρ, H => match evalE c e ρ H with
    | some (v, H1) => match v with
      | .tup _ => none
      | v => ((v.items H1).bind sortV).map fun xs => (.list xs, H1)
    | none => none
  | .slice a lo hi, ρ, H => match evalE c a ρ H with
    | some (v, H1) => match evalO c lo ρ H1 with
      | some (l, H2) => match evalO c hi ρ H2 with
        | some (h, H3) => (sliceV H3 v l h).map fun xs => (.list xs, H3)
        | none => none
      | none => none
    | none => none
  | .call f args, ρ, H => match evalEs c args ρ H with
    | some (vs, H1) => match c.F f vs H1 with
      | some (.lst xs, true, H2) => some (.list xs, H2)
      | _ => none
    | none => none
noncomputable def evalO (c : Ctx) : Option E → Loc → Hp → Option (V × Hp)
  | none, _, H => some (.none, H)
  | some e, ρ, H => evalE c e ρ H
noncomputable def evalIfs (c : Ctx) : List E → Loc → Hp → Option Bool
  | [], _, _ => some true
  | e :: es, ρ, H => match evalE c e ρ H with
    | some (v, H1) => if H1 = H then match truthyV H1 v with
        | some true => evalIfs c es ρ H
        | r => r
      else none
    | none => none
noncomputable def evalIt (c : Ctx) : It → Loc → Hp → Option (List V × List Nat × Hp)
  | .of e, ρ, H => match evalE c e ρ H with
    | some (v, H1) => (iterV H1 v).map fun xs => (xs, guardOf v, H1)
    | none => none
  | .range e, ρ, H => match evalE c e ρ H with
    | some (.int n, H1) => if -1000000 < n ∧ n < 1000000 then some (rangeV n, [], H1) else none
    | _ => none
  | .zip a b, ρ, H => match evalE c a ρ H with
    | some (x, H1) => match evalE c b ρ H1 with
      | some (y, H2) => (x.items H2).bind fun xs => (y.items H2).map fun ys => (zipV xs ys, guardOf x ++ guardOf y, H2)
      | none => none
    | none => none
end

mutual
noncomputable def evalS (c : Ctx) : S → Loc → Hp → Option (Fl × Loc × Hp)
  | .assign t e, ρ, H => match evalE c e ρ H with
    | some (v, H1) => (bindT t v ρ).map fun ρ' => (.next, ρ', H1)
    | none => none
  | .expr e, ρ, H => match evalE c e ρ H with
    | some (_, H1) => some (.next, ρ, H1)
    | none => none
  | .setItem e a i, ρ, H => match evalE c e ρ H with
    | some (v, H1) => match evalE c a ρ H1 with
      | some (x, H2) => match evalE c i ρ H2 with
        | some (y, H3) => (effV H3 .setItem [v, x, y]).map fun (_, H4) => (.next, ρ, H4)
        | none => none
      | none => none
    | none => none
  | .iff b t e, ρ, H => match evalE c b ρ H with
    | some (x, H1) => match truthyV H1 x with
      | some true => evalSs c t ρ H1
      | some false => evalSs c e ρ H1
      | none => none
    | none => none
  | .forr t it body, ρ, H => match evalIt c it ρ H with
    | some (xs, G, H1) => forL (fun x ρ H => match bindT t x ρ with
        | some ρ' => evalSs c body ρ' H
        | none => none) G H1 xs ρ H1
    | none => none
  | .ret e, ρ, H => match evalE c e ρ H with
    | some (v, H1) => some (.ret v, ρ, H1)
    | none => none
  | .stuck, _, _ => none
noncomputable def evalSs (c : Ctx) : List S → Loc → Hp → Option (Fl × Loc × Hp)
  | [], ρ, H => some (.next, ρ, H)
  | s :: ss, ρ, H => match evalS c s ρ H with
    | some (.next, ρ', H') => evalSs c ss ρ' H'
    | r => r
end

mutual
noncomputable def V.ok (n : Nat) : V → Bool
  | .tup xs => V.oks n xs
  | .lst xs => V.oks n xs
  | .ref i => decide (i < n)
  | _ => true
noncomputable def V.oks (n : Nat) : List V → Bool
  | [] => true
  | x :: xs => V.ok n x && V.oks n xs
end
noncomputable def O.ok (n : Nat) : O → Bool
  | .list xs => V.oks n xs

/-- what a call hands back: boxes made by the call (from n on) are frozen -/
noncomputable def frzV (H : Hp) (n : Nat) : Nat → V → Option V
  | 0, v => if v.ok n then some v else none
  | k + 1, v => if v.ok n then some v else match v with
    | .tup xs => (mapO (frzV H n k) xs).map .tup
    | .lst xs => (mapO (frzV H n k) xs).map .lst
    | .ref i => match H[i]? with
      | some (.list xs) => (mapO (frzV H n k) xs).map .lst
      | _ => none
    | _ => none

noncomputable def okAll (n : Nat) : Hp → Hp → Bool
  | [], _ => true
  | o :: H, o' :: H' => (decide (o' = o) || o'.ok n) && okAll n H H'
  | _ :: _, [] => false

noncomputable def isNewRef (H1 : Hp) (n : Nat) : V → Bool
  | .ref i => decide (n ≤ i) && (match H1[i]? with
    | some (.list xs) => V.oks n xs
    | _ => false)
  | _ => false

noncomputable def finish (H H1 : Hp) (v : V) : Option (V × Bool × Hp) :=
  match frzV H1 H.length 6 v with
  | some v' => if okAll H.length H H1 then some (v', isNewRef H1 H.length v, H1.take H.length) else none
  | none => none

structure Fn where
  np : Nat
  ns : Nat
  body : List S

noncomputable def F (P : Nat → Option Fn) (fuel : Nat) : Nat → Nat → List V → Hp → Option (V × Bool × Hp)
  | 0, _, _, _ => none
  | k + 1, n, args, H => match P n with
    | some f => if args.length = f.np then match evalSs ⟨F P fuel k, fuel⟩ f.body (args.map some ++ List.replicate f.ns none) H with
        | some (.ret v, _, H1) => finish H H1 v
        | some (.next, _, H1) => finish H H1 .none
        | none => none
      else none
    | none => none
end Mine
end

section
set_option autoImplicit false
namespace Mine
open PySem

noncomputable def sle (a b : Str) : Prop := a.cps.toList ≤ b.cps.toList
theorem sle_trans {a b c : Str} (h : sle a b) (h' : sle b c) : sle a c := List.le_trans h h'
theorem sle_total (a b : Str) : sle a b ∨ sle b a := List.le_total _ _
theorem sle_antisymm {a b : Str} (h : sle a b) (h' : sle b a) : a = b := by
  have := List.le_antisymm h h'
  obtain ⟨⟨x⟩⟩ := a
  obtain ⟨⟨y⟩⟩ := b
  simp only at this
  subst this
  rfl
theorem strLt_iff {a b : Str} : strLt a b = true ↔ a.cps.toList < b.cps.toList := by simp [strLt]
theorem strLt_sle {a b : Str} : strLt a b = false ↔ sle b a := by
  unfold strLt sle
  rw [decide_eq_false_iff_not, List.not_lt]
theorem strLt_of {a b : Str} (h : sle a b) (hn : a ≠ b) : strLt a b = true := by
  cases q : strLt a b with
  | true => rfl
  | false => exact absurd (sle_antisymm h (strLt_sle.mp q)) hn
theorem sle_of_lt {a b : Str} (h : strLt a b = true) : sle a b := by
  rcases sle_total a b with q | q
  · exact q
  · rw [strLt_sle.mpr q] at h; cases h

theorem sins_perm (x : Str) : ∀ ys, (sins x ys).Perm (x :: ys)
  | [] => .refl _
  | y :: ys => by
    simp only [sins]
    split
    · exact ((sins_perm x ys).cons y).trans (.swap x y ys)
    · exact .refl _
theorem ssort_perm : ∀ xs, (ssort xs).Perm xs
  | [] => .refl _
  | x :: xs => (sins_perm x _).trans ((ssort_perm xs).cons x)
theorem sins_sorted (x : Str) : ∀ {ys}, ys.Pairwise sle → (sins x ys).Pairwise sle
  | [], _ => by simp [sins]
  | y :: ys, h => by
    simp only [sins]
    rw [List.pairwise_cons] at h
    split
    · rename_i hlt
      rw [List.pairwise_cons]
      refine ⟨fun z hz => ?_, sins_sorted x h.2⟩
      rcases List.mem_cons.mp ((sins_perm x ys).mem_iff.mp hz) with rfl | q
      · exact sle_of_lt hlt
      · exact h.1 z q
    · rename_i hlt
      have hxy : sle x y := strLt_sle.mp (by simpa using hlt)
      rw [List.pairwise_cons, List.pairwise_cons]
      refine ⟨fun z hz => ?_, h⟩
      rcases List.mem_cons.mp hz with rfl | q
      · exact hxy
      · exact sle_trans hxy (h.1 z q)
theorem ssort_sorted : ∀ xs, (ssort xs).Pairwise sle
  | [] => .nil
  | x :: xs => sins_sorted x (ssort_sorted xs)
theorem ssort_unique {xs ys : List Str} (hp : ys.Perm xs) (hs : ys.Pairwise sle) : ys = ssort xs :=
  List.Perm.eq_of_pairwise (fun _ _ _ _ h h' => sle_antisymm h h') hs (ssort_sorted xs) (hp.trans (ssort_perm xs).symm)
end Mine
end

section
set_option autoImplicit false
namespace Mine
open PySem PySem.W PyProof.Rows

/-- all questions lie below n, and the end is as R says -/
noncomputable def Bnd {α : Type} (n : Nat) (R : α → Prop) : KasT α → Prop
  | .ret a => R a
  | .ask i j k => i < n ∧ j < n ∧ ∀ b, Bnd n R (k b)
theorem Bnd.bind {α β : Type} {n : Nat} {R : α → Prop} {R' : β → Prop} {f : α → KasT β} (hf : ∀ a, R a → Bnd n R' (f a)) : ∀ {t : KasT α}, Bnd n R t → Bnd n R' (t.bind f)
  | .ret a, h => hf a h
  | .ask i j k, h => ⟨h.1, h.2.1, fun b => Bnd.bind hf (h.2.2 b)⟩
theorem Bnd.mono {α : Type} {n : Nat} {R R' : α → Prop} (hf : ∀ a, R a → R' a) : ∀ {t : KasT α}, Bnd n R t → Bnd n R' t
  | .ret a, h => hf a h
  | .ask i j k, h => ⟨h.1, h.2.1, fun b => Bnd.mono hf (h.2.2 b)⟩
theorem Bnd.run {α : Type} {n : Nat} {R : α → Prop} {ans : Nat → Nat → Bool} : ∀ {t : KasT α}, Bnd n R t → R (runT ans t)
  | .ret a, h => h
  | .ask i j k, h => by show R (runT ans (k (ans i j))); exact Bnd.run (h.2.2 _)

noncomputable def PR (n : Nat) (p : Array Nat) : Prop := p.Perm (List.range n).toArray
theorem PR.lt {n : Nat} {p : Array Nat} (h : PR n p) (hn : 0 < n) (i : Nat) : p.getD i 0 < n := by
  unfold Array.getD
  split
  · rename_i hi
    have := (Array.perm_iff_toList_perm.mp h).mem_iff (a := p[i]) |>.mp (by simp)
    simpa using this
  · exact hn
theorem PR.rev {n : Nat} {p : Array Nat} (h : PR n p) (i j : Nat) : PR n (kas_rev p i j) := (mirror_perm _ _ _ _).trans h
theorem PR.bubble {n : Nat} {p : Array Nat} (h : PR n p) (i j : Nat) : PR n (bubble p i j) := (bubble_perm _ _ _).trans h

theorem bnd_asc {n : Nat} {p : Array Nat} (h : PR n p) (hn : 0 < n) : ∀ (f k : Nat), Bnd n (fun _ => True) (kas_asc p f k)
  | 0, _ => trivial
  | f + 1, k => ⟨h.lt hn _, h.lt hn _, fun b => by cases b <;> first | exact trivial | exact bnd_asc h hn f (k + 1)⟩
theorem bnd_desc {n : Nat} (hn : 0 < n) : ∀ (f : Nat) (p : Array Nat) (k q : Nat), PR n p → Bnd n (fun r : Array Nat × Nat × Nat => PR n r.1) (kas_desc f p k q)
  | 0, p, _, _, h => h
  | f + 1, p, k, q, h => ⟨h.lt hn _, h.lt hn _, fun b => by
      cases b
      · exact ⟨h.lt hn _, h.lt hn _, fun d => by
          cases d
          · exact bnd_desc hn f p (k + 1) (q + 1) h
          · exact h⟩
      · show Bnd n _ (if q > 0 then _ else _)
        split
        · exact bnd_desc hn f _ (k + 1) 0 (h.rev _ _)
        · exact bnd_desc hn f _ (k + 1) 0 h⟩
theorem bnd_tail3 {n : Nat} (hn : 0 < n) {a b : Nat} {p : Array Nat} (h : PR n p) : Bnd n (fun r : Nat × Array Nat => PR n r.2) (kas_tail3 a b p) := by
  refine Bnd.bind (R := fun _ => True) (fun _ _ => ?_) (bnd_asc (h.rev _ _) hn _ _)
  exact h.rev _ _
theorem bnd_descPart {n : Nat} (hn : 0 < n) {a b : Nat} {p : Array Nat} (h : PR n p) : Bnd n (fun r : Nat × Array Nat => PR n r.2) (kas_descPart a b p) := by
  refine Bnd.bind (fun r hr => ?_) (bnd_desc hn _ _ _ _ h)
  split
  · exact bnd_tail3 hn (hr.rev _ _)
  · exact bnd_tail3 hn hr
theorem bnd_count {n : Nat} (hn : 0 < n) {b : Nat} {p : Array Nat} (h : PR n p) : Bnd n (fun r : Nat × Array Nat => PR n r.2) (kas_count b p) := by
  refine Bnd.bind (fun r _ => ?_) (bnd_asc h hn _ _)
  split
  · exact h
  · split
    · exact ⟨h.lt hn _, h.lt hn _, fun c => by
        cases c
        · exact bnd_descPart hn (h.rev _ _)
        · exact h⟩
    · exact bnd_descPart hn h
theorem bnd_place {n : Nat} (hn : 0 < n) {p : Array Nat} (h : PR n p) (k : Nat) : ∀ (f l r : Nat), Bnd n (fun _ => True) (kas_place p k f l r)
  | 0, _, _ => trivial
  | f + 1, l, r => by
    unfold kas_place
    split
    · exact trivial
    · exact ⟨h.lt hn _, h.lt hn _, fun c => by cases c <;> exact bnd_place hn h k f _ _⟩
theorem bnd_bin {n : Nat} (hn : 0 < n) : ∀ (f : Nat) (p : Array Nat) (k : Nat), PR n p → Bnd n (PR n) (kas_bin f p k)
  | 0, _, _, h => h
  | f + 1, p, k, h => Bnd.bind (fun _ _ => bnd_bin hn f _ _ (h.bubble _ _)) (bnd_place hn h _ _ _ _)
theorem bnd_sort {n : Nat} (hn : 0 < n) : Bnd n (PR n) (kas_sort n) := by
  refine Bnd.bind (fun r hr => ?_) (bnd_count hn (Array.Perm.refl _))
  split
  · exact bnd_bin hn _ _ _ hr
  · exact hr

theorem kas_detB {α : Type} {s : Shared} {n : Nat} {R : α → Prop} {cmp : Nat → Nat → (Bool → Shared → Prop) → Shared → Prop} {ans : Nat → Nat → Bool} (hask : ∀ i j tk (C : Bool → Shared → Prop), i < n → j < n → (∀ tk', C (ans i j) { s with toks := tk' }) → cmp i j C { s with toks := tk }) :
    ∀ (t : KasT α) (tk : Nat) (Q : α → Shared → Prop), Bnd n R t → (∀ tk', Q (runT ans t) { s with toks := tk' }) → t.kasWp cmp Q { s with toks := tk }
  | .ret a, tk, Q, _, h => h tk
  | .ask i j k, tk, Q, hb, h => by
    show cmp i j (fun b s' => (k b).kasWp cmp Q s') _
    exact hask i j tk _ hb.1 hb.2.1 fun tk' => kas_detB hask (k (ans i j)) tk' Q (hb.2.2 _) h

end Mine
end

section
set_option autoImplicit false
namespace Mine
open PySem

structure Glob where
  fn : List (Str × Nat)
  gc : List (Str × V)
  bx : Pos → Bool

noncomputable def constV : Const → Option V
  | .none => some .none
  | .bool b => some (.bool b)
  | .int i => some (.int i)
  | .str s => some (.str s)
  | _ => none

noncomputable def slotOf (ns : List Str) (x : Str) : Option Nat := ns.findIdx? (· == x)

/-- a name that is a global one here -/
noncomputable def plainName (x : Str) : Bool := !(x == ("__debug__" : Str)) && !(x == ("__classdict__" : Str))
noncomputable def isGlob (sc : Scope) (x : Str) : Bool := (match sc.names.lookup x with
  | some .globalImplicit => true
  | _ => false) && plainName x
noncomputable def isLoc (sc : Scope) (x : Str) : Bool := (match sc.names.lookup x with
  | some .local | some .cell | some .free => true
  | _ => false) && plainName x

noncomputable def tyNm (x : Str) : Option Ty := if x == ("int" : Str) then some .int else if x == ("bool" : Str) then some .bool else if x == ("str" : Str) then some .str
      else if x == ("tuple" : Str) then some .tuple else if x == ("list" : Str) then some .list else none
noncomputable def tyOf (sc : Scope) : Expr → Option Ty
  | .Name x _ => if isGlob sc x then tyNm x else none
  | _ => none
noncomputable def tysOf (sc : Scope) : List Expr → Option (List Ty)
  | [] => some []
  | e :: r => match tyOf sc e, tysOf sc r with
    | some t, some ts => some (t :: ts)
    | _, _ => none

/-- a name that may be bound here -/
noncomputable def isTgt (sc : Scope) (x : Str) : Bool := (match sc.names.lookup x with
  | some .local | some .cell => true
  | _ => false) && plainName x
noncomputable def tgN (ns : List Str) (sc : Scope) : Expr → Option Nat
  | .Name x _ => if isTgt sc x then slotOf ns x else none
  | _ => none
noncomputable def trT (ns : List Str) (sc : Scope) : Expr → Option T
  | .Name x p => (tgN ns sc (.Name x p)).map .slot
  | .Tuple es _ _ => (mapO (tgN ns sc) es).map .tup
  | _ => none
noncomputable def nameOf : Expr → List Str
  | .Name x _ => [x]
  | _ => []
noncomputable def tgNames : Expr → List Str
  | .Name x _ => [x]
  | .Tuple es _ _ => es.flatMap nameOf
  | _ => []
noncomputable def isZipIt : It → Bool
  | .zip _ _ => true
  | _ => false
noncomputable def isTupE : Expr → Bool
  | .Tuple _ _ _ => true
  | _ => false
/-- what a list comprehension's scope must be -/
noncomputable def compOk (ns : List Str) (sc csc : Scope) (t : Expr) (it : It) : Bool :=
  csc.kind == .function && (slotOf ns (".0" : Str)).isNone && (!isZipIt it || isTupE t) && csc.names.all fun (n, k) => match k with
    | .cell => false
    | .local => csc.names.lookup n == some .local && (n == (".0" : Str) || (tgNames t).contains n)
    | .free => csc.names.lookup n == some .free && (match sc.names.lookup n with | some .cell | some .free => plainName n | _ => false)
    | _ => true

inductive BI where
  | len | isinstance | all | tuple | list | sorted | set | int | abs | min | max | range | zip | enumerate | dict
deriving DecidableEq
noncomputable def biOf (x : Str) : Option BI :=
  if x == ("len" : Str) then some .len else if x == ("isinstance" : Str) then some .isinstance else if x == ("all" : Str) then some .all
  else if x == ("tuple" : Str) then some .tuple else if x == ("list" : Str) then some .list else if x == ("sorted" : Str) then some .sorted
  else if x == ("set" : Str) then some .set else if x == ("int" : Str) then some .int else if x == ("abs" : Str) then some .abs
  else if x == ("min" : Str) then some .min else if x == ("max" : Str) then some .max else if x == ("range" : Str) then some .range
  else if x == ("zip" : Str) then some .zip else if x == ("enumerate" : Str) then some .enumerate else if x == ("dict" : Str) then some .dict else none

/-- frozen or boxed -/
noncomputable def fb (G : Glob) (p : Pos) (l : Option L) : Option E := l.map fun l => if G.bx p then .box l else .frz l

noncomputable def plainBase : Expr → Bool
  | .Call _ _ _ _ => false
  | _ => true

/-- several in turn -/
noncomputable def trEs (r : Expr → Scope → Option E) (es : List Expr) (sc : Scope) : Option (List E) := if es.length ≤ 1000 then mapO (fun e => r e sc) es else none
noncomputable def trO (r : Expr → Scope → Option E) (o : Option Expr) (sc : Scope) : Option (Option E) := match o with
  | none => some none
  | some e => (r e sc).map some
noncomputable def trName (G : Glob) (ns : List Str) (x : Str) (sc : Scope) : Option E := if isLoc sc x then (slotOf ns x).map .var else if isGlob sc x then (G.gc.lookup x).map .const else none
noncomputable def trUn (op : UnaryOp) (a : E) : Option E := match op with
  | .Not => some (.not a)
  | _ => none
noncomputable def trBool (op : BoolOp) (es : List E) : Option E := match op with
  | .And => some (.and es)
  | .Or => some (.or es)
noncomputable def sliceOf : Expr → Option (Option Expr × Option Expr × Option Expr)
  | .Slice lo hi st _ => some (lo, hi, st)
  | _ => none
noncomputable def trSub (G : Glob) (r : Expr → Scope → Option E) (a i : Expr) (p : Pos) (sc : Scope) : Option E := match sliceOf i with
  | none => (r a sc).bind fun a => (r i sc).map fun i => .sub a i
  | some q => if q.2.2.isNone then (r a sc).bind fun a => (trO r q.1 sc).bind fun lo => (trO r q.2.1 sc).bind fun hi => fb G p (some (.slice a lo hi)) else none
/-- set(e) -/
noncomputable def nameE : Expr → Option Str
  | .Name f _ => some f
  | _ => none
noncomputable def callE : Expr → Option (Str × List Expr)
  | .Call f args kws _ => (nameE f).bind fun f => if kws.isEmpty then some (f, args) else none
  | _ => none
noncomputable def oneE : List Expr → Option Expr
  | [e] => some e
  | _ => none
noncomputable def setArg (G : Glob) (sc : Scope) (e : Expr) : Option Expr := (callE e).bind fun q => (oneE q.2).bind fun e => if isGlob sc q.1 && (G.fn.lookup q.1).isNone && decide (biOf q.1 = some .set) then some e else none
noncomputable def tupOf : Expr → Option (List Expr)
  | .Tuple es _ _ => some es
  | _ => none
/-- calls of built-ins -/
noncomputable def trB1 (G : Glob) (r : Expr → Scope → Option E) (b : BI) (e : Expr) (p : Pos) (sc : Scope) : Option E := match b with
  | .len => match setArg G sc e with
    | some e' => (r e' sc).map fun a => .prim .setlen [a]
    | none => (r e sc).map fun a => .prim .len [a]
  | .all => (r e sc).map fun a => .prim .all [a]
  | .tuple => (r e sc).map fun a => .prim .tuple [a]
  | .int => (r e sc).map fun a => .prim .intOf [a]
  | .list => fb G p ((r e sc).map L.listOf)
  | .sorted => fb G p ((r e sc).map .sorted)
  | _ => none
noncomputable def trB2 (r : Expr → Scope → Option E) (b : BI) (e e2 : Expr) (sc : Scope) : Option E := match b with
  | .isinstance => match tupOf e2 with
    | some ts => (r e sc).bind fun a => (tysOf sc ts).bind fun ts => if ts ≠ [] ∧ ts.length < 1000 then some (.prim (.isinst ts) [a]) else none
    | none => (r e sc).bind fun a => (tyOf sc e2).map fun t => .prim (.isinst [t]) [a]
  | .min => (r e sc).bind fun a => (r e2 sc).map fun b => .prim .min [a, b]
  | _ => none
noncomputable def trB (G : Glob) (r : Expr → Scope → Option E) (f : Str) (args : List Expr) (p : Pos) (sc : Scope) : Option E := (biOf f).bind fun b => match args with
  | [e] => trB1 G r b e p sc
  | [e, e2] => trB2 r b e e2 sc
  | _ => none
/-- method calls -/
noncomputable def emptyC : Const → Bool
  | .str s => decide (s.length = 0)
  | _ => false
noncomputable def emptyStr : Expr → Bool
  | .Constant c _ _ => emptyC c
  | _ => false
noncomputable def trM0 (r : Expr → Scope → Option E) (o : Expr) (m : Str) (sc : Scope) : Option E :=
  if m == ("clear" : Str) then (r o sc).map fun o => .eff .clear [o] else none
noncomputable def trM1 (r : Expr → Scope → Option E) (o : Expr) (m : Str) (a : Expr) (sc : Scope) : Option E :=
  if m == ("append" : Str) then (r o sc).bind fun o => (r a sc).map fun a => .eff .append [o, a]
  else if m == ("join" : Str) then (if emptyStr o then (r a sc).map fun a => .prim .join [a] else none)
  else none
noncomputable def trM (r : Expr → Scope → Option E) (o : Expr) (m : Str) (args : List Expr) (sc : Scope) : Option E := match args with
  | [] => trM0 r o m sc
  | [a] => trM1 r o m a sc
  | _ => none
noncomputable def attrE : Expr → Option (Expr × Str × Pos)
  | .Attribute o m ap => some (o, m, ap)
  | _ => none
noncomputable def trCall (G : Glob) (r : Expr → Scope → Option E) (f : Expr) (args : List Expr) (p : Pos) (sc : Scope) : Option E := match nameE f with
  | some g => if isGlob sc g then match G.fn.lookup g with
      | some k => (trEs r args sc).map fun as => if G.bx p then .box (.call k as) else .call k as
      | none => trB G r g args p sc
    else none
  | none => match attrE f with
    | some q => if q.2.2.endLine == p.line && plainBase q.1 then trM r q.1 q.2.1 args sc else none
    | none => none
noncomputable def trItB (r : Expr → Scope → Option E) (b : BI) (args : List Expr) (sc : Scope) : Option It := match args with
  | [e] => if b = .range then (r e sc).map .range else none
  | [x, y] => if b = .zip then (r x sc).bind fun x => (r y sc).map fun y => .zip x y else none
  | _ => none
noncomputable def isIter (G : Glob) (sc : Scope) (f : Str) : Bool := isGlob sc f && (G.fn.lookup f).isNone && (decide (biOf f = some .range) || decide (biOf f = some .zip))
noncomputable def trIt (G : Glob) (r : Expr → Scope → Option E) (e : Expr) (sc : Scope) : Option It := match callE e with
  | some q => if isIter G sc q.1 then (biOf q.1).bind fun b => trItB r b q.2 sc else (r e sc).map .of
  | none => (r e sc).map .of
noncomputable def trComp (G : Glob) (ns : List Str) (r : Expr → Scope → Option E) (elt : Expr) (gens : List Comprehension) (csc : Scope) (p : Pos) (sc : Scope) : Option E := match gens with
  | [g] => if g.is_async = 0 then (trT ns csc g.target).bind fun t' => (trIt G r g.iter sc).bind fun it => (trEs r g.ifs csc).bind fun ifs => (r elt csc).bind fun elt => if compOk ns sc csc g.target it then fb G p (some (.comp t' it ifs elt)) else none else none
  | _ => none
noncomputable def trE1 (G : Glob) (ns : List Str) (r : Expr → Scope → Option E) (e : Expr) (sc : Scope) : Option E := match e with
  | .Constant c _ _ => (constV c).map .const
  | .Name x _ => trName G ns x sc
  | .BinOp a op b p => (r a sc).bind fun a => (r b sc).bind fun b => if G.bx p then none else some (.bin op a b)
  | .UnaryOp op a _ => (r a sc).bind fun a => trUn op a
  | .BoolOp op es _ => (trEs r es sc).bind fun es => trBool op es
  | .Compare a ops es _ => (r a sc).bind fun a => (trEs r es sc).map fun es => .cmp a ops es
  | .Tuple es _ _ => (trEs r es sc).map .tup
  | .List es p => fb G p ((trEs r es sc).map .disp)
  | .Subscript a i p => trSub G r a i p sc
  | .ListComp elt gens csc p => trComp G ns r elt gens csc p sc
  | .Call f args kws p => if kws.isEmpty then trCall G r f args p sc else none
  | _ => none
noncomputable def trE (G : Glob) (ns : List Str) : Nat → Expr → Scope → Option E
  | 0 => fun _ _ => none
  | n + 1 => trE1 G ns (trE G ns n)

noncomputable def isCallE : Expr → Bool
  | .Call _ _ _ _ => true
  | _ => false
noncomputable def subE : Expr → Option (Expr × Expr)
  | .Subscript a i _ => some (a, i)
  | _ => none
noncomputable def trAs (ns : List Str) (sc : Scope) (r : Expr → Scope → Option E) (t v : Expr) : Option S := match subE t with
  | some q => (r v sc).bind fun v => (r q.1 sc).bind fun a => (r q.2 sc).map fun i => .setItem v a i
  | none => match nameE t with
    | some _ => (tgN ns sc t).bind fun i => (r v sc).map fun v => .assign (.slot i) v
    | none => none
noncomputable def trS1 (G : Glob) (ns : List Str) (sc : Scope) (r : Expr → Scope → Option E) (q : Stmt → Option S) (s : Stmt) : Option S := match s with
  | .Assign ts v _ => (match ts with
    | [t] => trAs ns sc r t v
    | _ => none)
  | .Expr e _ => if isCallE e then (r e sc).map .expr else none
  | .If c t e _ => (r c sc).bind fun c => (mapO q t).bind fun t => (mapO q e).map fun e => .iff c t e
  | .For t it body els _ => if els.isEmpty then (trT ns sc t).bind fun t' => (trIt G r it sc).bind fun it => (mapO q body).bind fun b => if !isZipIt it || isTupE t then some (.forr t' it b) else none else none
  | .Return o _ => (match o with
    | some e => (r e sc).map .ret
    | none => some (.ret (.const .none)))
  | .Raise _ _ _ => some .stuck
  | _ => none
noncomputable def trS (G : Glob) (ns : List Str) (sc : Scope) : Nat → Stmt → Option S
  | 0 => fun _ => none
  | n + 1 => trS1 G ns sc (trE G ns n) (trS G ns sc n)
noncomputable def trSs (G : Glob) (ns : List Str) (sc : Scope) (n : Nat) (ss : List Stmt) : Option (List S) := mapO (trS G ns sc n) ss

noncomputable def fastOf (sc : Scope) : List Str := sc.more.filterMap fun (k, c) => if k == ("fast" : Str) then (match c with | .str s => some s | _ => none) else none

noncomputable def namesIn (sc : Scope) : List Str := match fastOf sc with
  | [] => (sc.names.filter fun x => x.2 == .local || x.2 == .cell).map (·.1)
  | l => l

noncomputable def fnOk (sc : Scope) (ps ns : List Str) : Bool :=
  sc.kind == .function && !sc.isGenerator && !sc.isCoroutine && decide ns.Nodup && ps == ns.take ps.length && ps.all (isTgt sc) && sc.names.all fun (_, k) => !(k == .free)

/-- a def as a clean function -/
noncomputable def trFn (G : Glob) (n : Nat) : Stmt → Option (Str × Fn)
  | .FunctionDef name args body _ _ _ sc _ _ _ =>
    let ps := args.args.map (·.arg)
    let ns := namesIn sc
    if fnOk sc ps ns then (trSs G ns sc n body).map fun b => (name, ⟨ps.length, ns.length - ps.length, b⟩) else none
  | _ => none
end Mine
end

section
set_option autoImplicit false
namespace Mine
open PySem

noncomputable abbrev sObj (c : String) (xs : Array Value) (n : Nat) : Obj := { cls := .type c, data := .seq xs n }

/-- a world: what is frozen, and where the boxes lie -/
structure Wd where
  σ : Addr → Option Obj
  φ : List Addr

structure Wd.le (a b : Wd) : Prop where
  fz : ∀ x o, a.σ x = some o → b.σ x = some o
  bx : a.φ <+: b.φ

theorem Wd.le.refl (a : Wd) : a.le a := ⟨fun _ _ h => h, List.prefix_refl _⟩
theorem Wd.le.trans {a b c : Wd} (x : a.le b) (y : b.le c) : a.le c := ⟨fun _ _ h => y.fz _ _ (x.fz _ _ h), x.bx.trans y.bx⟩

/-- a frozen sequence whose items are as P says -/
inductive SeqIs (W : Wd) (c : String) (w : Value) (P : List Value → Prop) : Prop
  | mk (a : Addr) (vs : Array Value) (n : Nat) (e : w = .ref a) (g : W.σ a = some (sObj c vs n)) (r : P vs.toList) : SeqIs W c w P
/-- a list of the heap whose items are as P says -/
inductive ListAt (h : Heap) (a : Addr) (P : List Value → Prop) : Prop
  | mk (vs : Array Value) (n : Nat) (g : h.get? a = some (sObj "list" vs n)) (r : P vs.toList) : ListAt h a P
mutual
noncomputable def RV (W : Wd) : V → Value → Prop
  | .none, w => w = .none
  | .bool b, w => w = .bool b
  | .int i, w => ∃ t, w = .int i t
  | .str s, w => ∃ t, w = .str s t
  | .tup xs, w => SeqIs W "tuple" w (RVs W xs)
  | .lst xs, w => SeqIs W "list" w (RVs W xs)
  | .ref i, w => ∃ a, w = .ref a ∧ W.φ[i]? = some a
noncomputable def RVs (W : Wd) : List V → List Value → Prop
  | [], [] => True
  | x :: xs, v :: vs => RV W x v ∧ RVs W xs vs
  | _, _ => False
end

mutual
theorem RV.mono {W W' : Wd} (h : W.le W') : ∀ {v : V} {w : Value}, RV W v w → RV W' v w
  | .none, _, x => by simpa only [RV] using x
  | .bool _, _, x => by simpa only [RV] using x
  | .int _, _, x => by simpa only [RV] using x
  | .str _, _, x => by simpa only [RV] using x
  | .tup xs, _, x => by
    simp only [RV] at x ⊢
    obtain ⟨a, vs, n, e, g, r⟩ := x
    exact ⟨a, vs, n, e, h.fz _ _ g, RVs.mono h r⟩
  | .lst xs, _, x => by
    simp only [RV] at x ⊢
    obtain ⟨a, vs, n, e, g, r⟩ := x
    exact ⟨a, vs, n, e, h.fz _ _ g, RVs.mono h r⟩
  | .ref i, _, x => by
    simp only [RV] at x ⊢
    obtain ⟨a, e, g⟩ := x
    refine ⟨a, e, ?_⟩
    obtain ⟨r, hr⟩ := h.bx
    rw [← hr, List.getElem?_append_left (by have := List.getElem?_eq_some_iff.mp g; exact this.1)]
    exact g
theorem RVs.mono {W W' : Wd} (h : W.le W') : ∀ {v : List V} {w : List Value}, RVs W v w → RVs W' v w
  | [], [], _ => by simp only [RVs]
  | _ :: _, _ :: _, x => by simp only [RVs] at x ⊢; exact ⟨RV.mono h x.1, RVs.mono h x.2⟩
  | [], _ :: _, x => by simp only [RVs] at x
  | _ :: _, [], x => by simp only [RVs] at x
end

theorem RVs.length {W : Wd} : ∀ {xs : List V} {vs : List Value}, RVs W xs vs → xs.length = vs.length
  | [], [], _ => rfl
  | _ :: _, _ :: _, h => by simp only [RVs] at h; simp [RVs.length h.2]
  | [], _ :: _, h => by simp only [RVs] at h
  | _ :: _, [], h => by simp only [RVs] at h
theorem RVs.get {W : Wd} : ∀ {xs : List V} {vs : List Value}, RVs W xs vs → ∀ {i : Nat} {x : V}, xs[i]? = some x → ∃ v, vs[i]? = some v ∧ RV W x v
  | x :: xs, v :: vs, h, i, y, e => by
    simp only [RVs] at h
    cases i with
    | zero => simp only [List.getElem?_cons_zero, Option.some.injEq] at e; subst e; exact ⟨v, rfl, h.1⟩
    | succ i => simp only [List.getElem?_cons_succ] at e ⊢; exact RVs.get h.2 e
  | [], _, _, i, y, e => by simp at e
  | _ :: _, [], h, _, _, _ => by simp only [RVs] at h
theorem RVs.append {W : Wd} : ∀ {xs ys : List V} {vs us : List Value}, RVs W xs vs → RVs W ys us → RVs W (xs ++ ys) (vs ++ us)
  | [], _, [], _, _, h => h
  | _ :: _, _, _ :: _, _, h, h' => by simp only [RVs, List.cons_append] at h ⊢; exact ⟨h.1, RVs.append h.2 h'⟩
  | [], _, _ :: _, _, h, _ => by simp only [RVs] at h
  | _ :: _, _, [], _, h, _ => by simp only [RVs] at h
theorem RVs.snoc {W : Wd} {xs : List V} {vs : List Value} {x : V} {v : Value} (h : RVs W xs vs) (h' : RV W x v) : RVs W (xs ++ [x]) (vs ++ [v]) :=
  h.append (by simp only [RVs]; exact ⟨h', trivial⟩)
theorem RVs.set {W : Wd} : ∀ {xs : List V} {vs : List Value} {i : Nat} {x : V} {v : Value}, RVs W xs vs → RV W x v → RVs W (xs.set i x) (vs.set i v)
  | [], [], _, _, _, _, _ => by simp only [List.set_nil, RVs]
  | _ :: _, _ :: _, 0, _, _, h, h' => by simp only [RVs, List.set_cons_zero] at h ⊢; exact ⟨h', h.2⟩
  | _ :: _, _ :: _, i + 1, _, _, h, h' => by simp only [RVs, List.set_cons_succ] at h ⊢; exact ⟨h.1, RVs.set h.2 h'⟩
  | [], _ :: _, _, _, _, h, _ => by simp only [RVs] at h
  | _ :: _, [], _, _, _, h, _ => by simp only [RVs] at h
theorem RVs.take {W : Wd} : ∀ {xs : List V} {vs : List Value} (n : Nat), RVs W xs vs → RVs W (xs.take n) (vs.take n)
  | [], [], _, _ => by simp only [List.take_nil, RVs]
  | _ :: _, _ :: _, 0, _ => by simp only [List.take_zero, RVs]
  | _ :: _, _ :: _, n + 1, h => by simp only [RVs, List.take_succ_cons] at h ⊢; exact ⟨h.1, RVs.take n h.2⟩
  | [], _ :: _, _, h => by simp only [RVs] at h
  | _ :: _, [], _, h => by simp only [RVs] at h
theorem RVs.drop {W : Wd} : ∀ {xs : List V} {vs : List Value} (n : Nat), RVs W xs vs → RVs W (xs.drop n) (vs.drop n)
  | [], [], _, _ => by simp only [List.drop_nil, RVs]
  | _ :: _, _ :: _, 0, h => h
  | _ :: _, _ :: _, n + 1, h => by simp only [RVs, List.drop_succ_cons] at h ⊢; exact RVs.drop n h.2
  | [], _ :: _, _, h => by simp only [RVs] at h
  | _ :: _, [], _, h => by simp only [RVs] at h

/-- a box -/
noncomputable def OR (W : Wd) (h : Heap) : O → Addr → Prop
  | .list xs, a => ListAt h a (RVs W xs)

theorem OR.alive {W : Wd} {h : Heap} {o : O} {a : Addr} (x : OR W h o a) : h.get? a ≠ none := by
  cases o with
  | list xs => obtain ⟨vs, n, g, _⟩ := x; rw [g]; simp
theorem OR.move {W W' : Wd} {h h' : Heap} {o : O} {a : Addr} (x : OR W h o a) (le : W.le W') (e : h'.get? a = h.get? a) : OR W' h' o a := by
  cases o with
  | list xs => obtain ⟨vs, n, g, r⟩ := x; exact ⟨vs, n, e.trans g, r.mono le⟩

structure SR (B : Heap) (W : Wd) (H : Hp) (h : Heap) : Prop where
  base : ∀ b o, B.get? b = some o → h.get? b = some o
  froz : ∀ b o, W.σ b = some o → h.get? b = some o
  apart : ∀ b ∈ W.φ, W.σ b = none
  above : ∀ b ∈ W.φ, B.get? b = none
  nodup : W.φ.Nodup
  len : H.length = W.φ.length
  objs : ∀ (i : Nat) (o : O) (a : Addr), H[i]? = some o → W.φ[i]? = some a → OR W h o a

/-- what may have changed on the way -/
structure Tr (W W' : Wd) (h h' : Heap) : Prop where
  le : W.le W'
  keep : ∀ b o, h.get? b = some o → b ∉ W.φ → h'.get? b = some o
  alive : ∀ b, h.get? b ≠ none → h'.get? b ≠ none
  nf : ∀ b ∈ W'.φ, b ∈ W.φ ∨ h.get? b = none
  nz : ∀ b o, W'.σ b = some o → W.σ b = some o ∨ h.get? b = none

theorem Tr.refl (W : Wd) (h : Heap) : Tr W W h h := ⟨.refl _, fun _ _ e _ => e, fun _ e => e, fun _ m => .inl m, fun _ _ m => .inl m⟩
theorem Tr.trans {W W' W'' : Wd} {h h' h'' : Heap} (x : Tr W W' h h') (y : Tr W' W'' h' h'') : Tr W W'' h h'' where
  le := x.le.trans y.le
  keep := fun b o e nb => y.keep b o (x.keep b o e nb) fun m => (x.nf b m).elim nb fun q => by rw [q] at e; cases e
  alive := fun b e => y.alive b (x.alive b e)
  nf := fun b m => (y.nf b m).elim (x.nf b) fun q => .inr (Classical.byContradiction fun e => x.alive b e q)
  nz := fun b o m => (y.nz b o m).elim (x.nz b o) fun q => .inr (Classical.byContradiction fun e => x.alive b e q)

theorem SR.mem_alive {B : Heap} {W : Wd} {H : Hp} {h : Heap} (S : SR B W H h) {b : Addr} (m : b ∈ W.φ) : h.get? b ≠ none := by
  obtain ⟨i, hi, e⟩ := List.getElem_of_mem m
  have hi' : i < H.length := S.len ▸ hi
  exact (S.objs i H[i] b (List.getElem?_eq_getElem hi') (by rw [List.getElem?_eq_getElem hi, e])).alive

/-- the heap grows, nothing else -/
theorem Tr.grow {W : Wd} {h h' : Heap} (k : ∀ b o, h.get? b = some o → h'.get? b = some o) : Tr W W h h' where
  le := .refl _
  keep := fun b o e _ => k b o e
  alive := fun b e => by
    cases q : h.get? b with
    | none => exact absurd q e
    | some o => rw [k b o q]; simp
  nf := fun _ m => .inl m
  nz := fun _ _ m => .inl m
theorem SR.grow {B : Heap} {W : Wd} {H : Hp} {h h' : Heap} (S : SR B W H h) (k : ∀ b o, h.get? b = some o → h'.get? b = some o) : SR B W H h' where
  base := fun b o e => k b o (S.base b o e)
  froz := fun b o e => k b o (S.froz b o e)
  apart := S.apart
  above := S.above
  nodup := S.nodup
  len := S.len
  objs := fun i o a e e' => by
    have x := S.objs i o a e e'
    cases q : h.get? a with
    | none => exact absurd q x.alive
    | some ob => exact x.move (.refl _) ((k a ob q).trans q.symm)

/-- what is not of the world changes -/
theorem SR.other {B : Heap} {W : Wd} {H : Hp} {h h' : Heap} (S : SR B W H h) {P : Addr → Prop} (hB : ∀ b, P b → B.get? b = none) (hσ : ∀ b, P b → W.σ b = none) (hφ : ∀ b, P b → b ∉ W.φ)
    (k : ∀ b o, ¬ P b → h.get? b = some o → h'.get? b = some o) : SR B W H h' where
  base := fun b o e => k b o (fun p => by rw [hB b p] at e; cases e) (S.base b o e)
  froz := fun b o e => k b o (fun p => by rw [hσ b p] at e; cases e) (S.froz b o e)
  apart := S.apart
  above := S.above
  nodup := S.nodup
  len := S.len
  objs := fun i o a e e' => by
    have x := S.objs i o a e e'
    cases q : h.get? a with
    | none => exact absurd q x.alive
    | some ob => exact x.move (.refl _) ((k a ob (fun p => hφ a p (List.mem_of_getElem? e')) q).trans q.symm)

/-- freezing what was made and lies in no box -/
noncomputable def Wd.freeze (W : Wd) (a : Addr) (o : Obj) : Wd := { W with σ := fun b => if b = a then some o else W.σ b }
theorem Wd.le_freeze {W : Wd} {a : Addr} {o : Obj} (h : W.σ a = none) : W.le (W.freeze a o) := ⟨fun x o' e => by
    show (if x = a then some o else W.σ x) = some o'
    by_cases q : x = a
    · rw [q, h] at e; cases e
    · rw [if_neg q]; exact e, List.prefix_refl _⟩
theorem Wd.freeze_self {W : Wd} {a : Addr} {o : Obj} : (W.freeze a o).σ a = some o := if_pos rfl

theorem SR.freeze {B : Heap} {W : Wd} {H : Hp} {h : Heap} (S : SR B W H h) {a : Addr} {o : Obj} (e : h.get? a = some o) (hz : W.σ a = none) (hf : a ∉ W.φ) : SR B (W.freeze a o) H h where
  base := S.base
  froz := fun b ob q => by
    by_cases hb : b = a
    · subst hb
      have q' : (if b = b then some o else W.σ b) = some ob := q
      rw [if_pos rfl] at q'; cases q'; exact e
    · have q' : (if b = a then some o else W.σ b) = some ob := q
      rw [if_neg hb] at q'; exact S.froz b ob q'
  apart := fun b m => by
    show (if b = a then some o else W.σ b) = none
    rw [if_neg (fun (q : b = a) => hf (q ▸ m))]; exact S.apart b m
  above := S.above
  nodup := S.nodup
  len := S.len
  objs := fun i o a e e' => (S.objs i o a e e').move (Wd.le_freeze hz) rfl
theorem Tr.freeze {W W' : Wd} {h h' : Heap} (x : Tr W W' h h') {a : Addr} {o : Obj} (hz : W'.σ a = none) (hn : h.get? a = none) : Tr W (W'.freeze a o) h h' where
  le := x.le.trans (Wd.le_freeze hz)
  keep := x.keep
  alive := x.alive
  nf := x.nf
  nz := fun b ob q => by
    by_cases hb : b = a
    · rw [hb]; exact .inr hn
    · have q' : (if b = a then some o else W'.σ b) = some ob := q
      rw [if_neg hb] at q'; exact x.nz b ob q'

/-- boxing what was made -/
noncomputable def Wd.box (W : Wd) (a : Addr) : Wd := { W with φ := W.φ ++ [a] }
theorem Wd.le_box {W : Wd} {a : Addr} : W.le (W.box a) := ⟨fun _ _ e => e, List.prefix_append _ _⟩
theorem SR.box {B : Heap} {W : Wd} {H : Hp} {h : Heap} (S : SR B W H h) {a : Addr} {o : O} (x : OR W h o a) (hz : W.σ a = none) (hf : a ∉ W.φ) (hB : B.get? a = none) : SR B (W.box a) (H ++ [o]) h where
  base := S.base
  froz := S.froz
  apart := fun b m => (List.mem_append.mp m).elim (S.apart b) fun q => by rw [List.mem_singleton.mp q]; exact hz
  above := fun b m => (List.mem_append.mp m).elim (S.above b) fun q => by rw [List.mem_singleton.mp q]; exact hB
  nodup := List.nodup_append.mpr ⟨S.nodup, by simp, fun b m c q e => hf (by rw [List.mem_singleton.mp q] at e; exact e ▸ m)⟩
  len := by show (H ++ [o]).length = (W.φ ++ [a]).length; rw [List.length_append, List.length_append, S.len]; rfl
  objs := fun i o' a' e e' => by
    have e'' : (W.φ ++ [a])[i]? = some a' := e'
    by_cases q : i < H.length
    · rw [List.getElem?_append_left q] at e
      rw [List.getElem?_append_left (S.len ▸ q)] at e''
      exact (S.objs i o' a' e e'').move Wd.le_box rfl
    · have hi : i = H.length := by
        have h1 := (List.getElem?_eq_some_iff.mp e).1
        rw [List.length_append] at h1
        simp only [List.length_singleton] at h1; omega
      subst hi
      rw [List.getElem?_append_right (Nat.le_refl _), Nat.sub_self] at e
      rw [List.getElem?_append_right (by rw [S.len]; exact Nat.le_refl _), S.len, Nat.sub_self] at e''
      simp only [List.getElem?_cons_zero, Option.some.injEq] at e e''
      subst e e''
      exact x.move Wd.le_box rfl
theorem Tr.box {W W' : Wd} {h h' : Heap} (x : Tr W W' h h') {a : Addr} (hn : h.get? a = none) : Tr W (W'.box a) h h' where
  le := x.le.trans Wd.le_box
  keep := x.keep
  alive := x.alive
  nf := fun b m => (List.mem_append.mp m).elim (x.nf b) fun q => .inr (by rw [List.mem_singleton.mp q]; exact hn)
  nz := x.nz

/-- a box is changed -/
theorem SR.upd {B : Heap} {W : Wd} {H : Hp} {h h' : Heap} (S : SR B W H h) {i : Nat} {a : Addr} {o : O} (hi : W.φ[i]? = some a) (k : ∀ b, b ≠ a → h'.get? b = h.get? b) (x : OR W h' o a) : SR B W (H.set i o) h' where
  base := fun b ob e => by
    have nb : b ≠ a := fun q => by rw [q, S.above a (List.mem_of_getElem? hi)] at e; cases e
    exact (k b nb).trans (S.base b ob e)
  froz := fun b ob e => by
    have nb : b ≠ a := fun q => by rw [q, S.apart a (List.mem_of_getElem? hi)] at e; cases e
    exact (k b nb).trans (S.froz b ob e)
  apart := S.apart
  above := S.above
  nodup := S.nodup
  len := by rw [List.length_set]; exact S.len
  objs := fun j o' a' e e' => by
    by_cases q : j = i
    · subst q
      rw [hi] at e'; cases e'
      rw [List.getElem?_set_self (by have := (List.getElem?_eq_some_iff.mp hi).1; rw [S.len]; exact this)] at e
      cases e; exact x
    · rw [List.getElem?_set_ne (Ne.symm q)] at e
      refine (S.objs j o' a' e e').move (.refl _) (k a' fun r => q ?_)
      subst r
      have h1 := List.getElem?_eq_some_iff.mp hi
      have h2 := List.getElem?_eq_some_iff.mp e'
      exact (List.getElem_inj (h₀ := h2.1) (h₁ := h1.1) S.nodup).mp (h2.2.trans h1.2.symm)
theorem Tr.upd {W : Wd} {h h' : Heap} {a : Addr} (hm : a ∈ W.φ) (k : ∀ b, b ≠ a → h'.get? b = h.get? b) (ha : h'.get? a ≠ none) : Tr W W h h' where
  le := .refl _
  keep := fun b o e nb => (k b fun q => nb (q ▸ hm)).trans e
  alive := fun b e => by
    by_cases q : b = a
    · rw [q]; exact ha
    · rw [k b q]; exact e
  nf := fun _ m => .inl m
  nz := fun _ _ m => .inl m
end Mine
end

section
set_option autoImplicit false
namespace Mine
open PySem

structure Cx where
  prog : Program
  w : World
  B : Heap
  gv : Str → Option Value

noncomputable abbrev Cx.M (X : Cx) : Model := model X.prog X.w

structure BaseOk (X : Cx) : Prop where
  nolimit : X.B.NoLimit
  names : ∃ mg mb, X.B.Ns mainGlobals mg ∧ X.B.Ns builtinsNs mb ∧ ∀ x v, X.gv x = some v → mg x = some v ∨ (mg x = none ∧ mb x = some v)

noncomputable def NoE : Value → Shared → Prop := fun _ _ => False

structure Rest (s s' : Shared) : Prop where
  gens : s'.gens = s.gens
  drawn : s'.drawn = s.drawn
  os : s'.os = s.os
theorem Rest.refl (s : Shared) : Rest s s := ⟨rfl, rfl, rfl⟩
theorem Rest.trans {a b c : Shared} (x : Rest a b) (y : Rest b c) : Rest a c := ⟨y.gens.trans x.gens, y.drawn.trans x.drawn, y.os.trans x.os⟩

structure AOk (k : Nat) (A : Around) : Prop where
  handled : A.handled = none
  depth : A.depth + k < 900
  units : A.units + 10 * k < 9000

theorem AOk.room {k : Nat} {A : Around} (h : AOk k A) : A.depth < recursionLimit := by have := h.depth; unfold recursionLimit; omega
theorem AOk.line {k : Nat} {A : Around} (h : AOk k A) : A.units < cLine := by have := h.units; unfold cLine; omega

/-- a value is given -/
inductive PV (X : Cx) (W : Wd) (s : Shared) (H' : Hp) (v : V) (w : Value) (s' : Shared) : Prop
  | mk (W' : Wd) (t : Tr W W' s.heap s'.heap) (S : SR X.B W' H' s'.heap) (r : RV W' v w) (q : Rest s s') : PV X W s H' v w s'
/-- a list is made, neither frozen nor boxed yet -/
inductive PL (X : Cx) (W : Wd) (s : Shared) (H' : Hp) (o : O) (w : Value) (s' : Shared) : Prop
  | mk (W' : Wd) (a : Addr) (e : w = .ref a) (t : Tr W W' s.heap s'.heap) (S : SR X.B W' H' s'.heap) (x : OR W' s'.heap o a) (z : W'.σ a = none) (f : a ∉ W'.φ) (n : s.heap.get? a = none) (q : Rest s s') : PL X W s H' o w s'
/-- a truth value is given -/
inductive PB (X : Cx) (W : Wd) (s : Shared) (H' : Hp) (b b' : Bool) (s' : Shared) : Prop
  | mk (e : b' = b) (W' : Wd) (t : Tr W W' s.heap s'.heap) (S : SR X.B W' H' s'.heap) (q : Rest s s') : PB X W s H' b b' s'

section
variable {X : Cx} {W W' : Wd} {s s' : Shared} {H H' : Hp} {v : V} {w : Value} {o : O} {b b' : Bool}
theorem PV.trans (t : Tr W W' s.heap s'.heap) (r : Rest s s') {s'' : Shared} (p : PV X W' s' H' v w s'') : PV X W s H' v w s'' :=
  let ⟨W2, t2, S, x, r2⟩ := p; ⟨W2, t.trans t2, S, x, r.trans r2⟩
theorem PB.trans (t : Tr W W' s.heap s'.heap) (r : Rest s s') {s'' : Shared} (p : PB X W' s' H' b b' s'') : PB X W s H' b b' s'' :=
  let ⟨e, W2, t2, S, r2⟩ := p; ⟨e, W2, t.trans t2, S, r.trans r2⟩
theorem PL.trans (t : Tr W W' s.heap s'.heap) (r : Rest s s') {s'' : Shared} (p : PL X W' s' H' o w s'') : PL X W s H' o w s'' :=
  let ⟨W2, a, e, t2, S, x, z, f, n, r2⟩ := p
  ⟨W2, a, e, t.trans t2, S, x, z, f, Classical.byContradiction fun q => t.alive a q n, r.trans r2⟩
/-- a plain value, the heap as it was -/
theorem PV.here (S : SR X.B W H s.heap) (x : RV W v w) {tk : Nat} : PV X W s H v w { s with toks := tk } := ⟨W, .refl _ _, S, x, ⟨rfl, rfl, rfl⟩⟩
theorem PV.here' (S : SR X.B W H s.heap) (x : RV W v w) : PV X W s H v w s := ⟨W, .refl _ _, S, x, .refl _⟩
theorem PB.here (S : SR X.B W H s.heap) {tk : Nat} : PB X W s H b b { s with toks := tk } := ⟨rfl, W, .refl _ _, S, ⟨rfl, rfl, rfl⟩⟩
theorem PB.here' (S : SR X.B W H s.heap) : PB X W s H b b s := ⟨rfl, W, .refl _ _, S, .refl _⟩
/-- frozen -/
theorem PL.freeze {xs : List V} (p : PL X W s H' (.list xs) w s') : PV X W s H' (.lst xs) w s' := by
  obtain ⟨W2, a, e, t, S, ⟨vs, n, g, r⟩, z, f, hn, r2⟩ := p
  refine ⟨W2.freeze a (sObj "list" vs n), t.freeze z hn, S.freeze g z f, ?_, r2⟩
  simp only [RV]
  exact ⟨a, vs, n, e, Wd.freeze_self, r.mono (Wd.le_freeze z)⟩
/-- boxed -/
theorem PL.box (S₀ : SR X.B W H s.heap) (p : PL X W s H' o w s') : PV X W s (H' ++ [o]) (.ref H'.length) w s' := by
  obtain ⟨W2, a, e, t, S, x, z, f, hn, r2⟩ := p
  refine ⟨W2.box a, t.box hn, S.box x z f ?_, ?_, r2⟩
  · cases q : X.B.get? a with
    | none => rfl
    | some ob => rw [S₀.base a ob q] at hn; cases hn
  · simp only [RV]
    refine ⟨a, e, ?_⟩
    show (W2.φ ++ [a])[H'.length]? = some a
    rw [S.len, List.getElem?_append_right (Nat.le_refl _), Nat.sub_self]; rfl
end

/-- what belongs to the frame -/
noncomputable def Own (env : Env) (b : Addr) : Prop := b = env.locals ∨ ∃ x, env.cells.lookup x = some b

/-- the frame's kinds -/
structure EnvOk (X : Cx) (sc : Scope) (env : Env) : Prop where
  kind : env.scope.kind = .function
  globals : env.globals = mainGlobals
  builtins : env.builtins = builtinsNs
  glob : ∀ x, isGlob sc x = true → env.kindOf x = some .globalImplicit
  inter : interactive env = false
  loc : ∀ x, sc.names.lookup x = some .local → env.kindOf x = some .local
  fre : ∀ x, sc.names.lookup x = some .cell ∨ sc.names.lookup x = some .free → env.kindOf x = some .cell ∨ env.kindOf x = some .free
  cel : ∀ x, sc.names.lookup x = some .cell → env.kindOf x = some .cell
  cells : ∀ x, sc.names.lookup x = some .cell ∨ sc.names.lookup x = some .free → ∃ c, env.cells.lookup x = some c
  inj : ∀ x y c, env.cells.lookup x = some c → env.cells.lookup y = some c → x = y
  base : ∀ b, Own env b → X.B.get? b = none

noncomputable def Bd (env : Env) (h : Heap) (x : Str) (w : Value) : Prop :=
  (env.kindOf x = some .local ∧ ∃ m, h.Ns env.locals m ∧ m x = some w) ∨
  ((env.kindOf x = some .cell ∨ env.kindOf x = some .free) ∧ ∃ c, env.cells.lookup x = some c ∧ h.IsCell c (some w))

structure FR (W : Wd) (env : Env) (ns : List Str) (sc : Scope) (ρ : Loc) (h : Heap) : Prop where
  vars : ∀ (x : Str) (i : Nat) (v : V), isLoc sc x = true → slotOf ns x = some i → ρ[i]? = some (some v) → ∃ w, RV W v w ∧ Bd env h x w
  out : ∀ b, Own env b → b ∉ W.φ
  alive : ∀ b, Own env b → h.get? b ≠ none
  nsp : ∃ m, h.Ns env.locals m
  cell : ∀ x c, env.cells.lookup x = some c → ∃ v, h.IsCell c v
  apart : ∀ b, Own env b → W.σ b = none

theorem Bd.move {env : Env} {h h' : Heap} {x : Str} {w : Value} (k : ∀ b o, Own env b → h.get? b = some o → h'.get? b = some o) (y : Bd env h x w) : Bd env h' x w := by
  rcases y with ⟨a, m, ⟨o, es, ep, e, r⟩, q⟩ | ⟨a, c, hc, o, e, q⟩
  · exact .inl ⟨a, m, ⟨o, es, ep, k _ _ (.inl rfl) e, r⟩, q⟩
  · exact .inr ⟨a, c, hc, o, k _ _ (.inr ⟨x, hc⟩) e, q⟩

theorem FR.move {W W' : Wd} {env : Env} {ns : List Str} {sc : Scope} {ρ : Loc} {h h' : Heap} (f : FR W env ns sc ρ h) (t : Tr W W' h h') : FR W' env ns sc ρ h' where
  vars := fun x i v a b c => by
    obtain ⟨w, y, z⟩ := f.vars x i v a b c
    exact ⟨w, y.mono t.le, z.move fun b o ob e => t.keep b o e (f.out b ob)⟩
  out := fun b ob m => (t.nf b m).elim (f.out b ob) (f.alive b ob)
  alive := fun b ob => t.alive b (f.alive b ob)
  nsp := by
    obtain ⟨m, o, es, ep, e, r⟩ := f.nsp
    exact ⟨m, o, es, ep, t.keep _ _ e (f.out _ (.inl rfl)), r⟩
  cell := fun x c e => by
    obtain ⟨v, o, g, d⟩ := f.cell x c e
    exact ⟨v, o, t.keep _ _ g (f.out _ (.inr ⟨x, e⟩)), d⟩
  apart := fun b ob => by
    cases q : W'.σ b with
    | none => rfl
    | some o => exact (t.nz b o q).elim (fun e => by rw [f.apart b ob] at e; cases e) fun e => absurd e (f.alive b ob)

section
variable {X : Cx} {W W' : Wd} {s s' : Shared} {H H' : Hp} {ρ : Loc} {v : V} {w : Value} {A : Around} {env : Env} {sc : Scope} {ns : List Str} {k : Nat}

theorem plainName_debug {x : Str} (h : plainName x = true) : (x == ("__debug__" : Str)) = false := by
  simp only [plainName, Bool.and_eq_true, Bool.not_eq_true'] at h; exact h.1
theorem plainName_cd {x : Str} (h : plainName x = true) : (x == ("__classdict__" : Str)) = false := by
  simp only [plainName, Bool.and_eq_true, Bool.not_eq_true'] at h; exact h.2
theorem isLoc_plain {x : Str} (h : isLoc sc x = true) : plainName x = true := (Bool.and_eq_true_iff.mp h).2
theorem isGlob_plain {x : Str} (h : isGlob sc x = true) : plainName x = true := (Bool.and_eq_true_iff.mp h).2

theorem sim_var (hE : EnvOk X sc env) (f : FR W env ns sc ρ s.heap) (S : SR X.B W H s.heap) {x : Str} {pos : Pos} {i : Nat} (hl : isLoc sc x = true) (hi : slotOf ns x = some i) (hv : ρ[i]? = some (some v)) :
    wpAny X.M A (eval (.Name x pos) env) (PV X W s H v) NoE s := by
  obtain ⟨w, y, z⟩ := f.vars x i v hl hi hv
  have hp := isLoc_plain hl
  refine wpAny_Name ?_ (plainName_debug hp)
  rcases z with ⟨a, m, hn, q⟩ | ⟨a | a, c, hc, q⟩
  · exact wpAny_loadName_local hE.kind a hn q (PV.here' S y)
  · exact wpAny_loadName_cell hE.kind a hc q (PV.here' S y)
  · exact wpAny_loadName_free hE.kind a hc q (PV.here' S y) (plainName_cd hp)

theorem glob_name (hB : BaseOk X) (hE : EnvOk X sc env) (S : SR X.B W H s.heap) {x : Str} {pos : Pos} {u : Value} {Q : Value → Shared → Prop} {E : Value → Shared → Prop} (hg : isGlob sc x = true) (hv : X.gv x = some u) (h : Q u s) :
    wpAny X.M A (eval (.Name x pos) env) Q E s := by
  obtain ⟨mg, mb, ng, nb, hx⟩ := hB.names
  refine Calls.Name_function_global hE.kind (hE.glob x hg) ?_ (plainName_debug (isGlob_plain hg))
  rcases hx x u hv with e | ⟨e1, e2⟩
  · exact Calls.loadGlobal_global (hE.globals ▸ ng.keeps S.base) e h
  · exact Calls.loadGlobal_builtin (hE.globals ▸ ng.keeps S.base) e1 (hE.builtins ▸ nb.keeps S.base) e2 h

theorem sim_const (S : SR X.B W H s.heap) {c : Const} {kk : Nat} {pos : Pos} (h : constV c = some v) : wpAny X.M A (eval (.Constant c kk pos) env) (PV X W s H v) NoE s := by
  cases c <;> simp only [constV, Option.some.injEq, reduceCtorEq] at h <;> subst h
  · exact fun _ _ _ => PV.here' S (by simp only [RV])
  · exact fun _ _ _ => PV.here' S (by simp only [RV])
  · exact wpAny_Constant_int (PV.here S (by simp only [RV]; exact ⟨_, rfl⟩))
  · exact fun _ _ _ => PV.here S (by simp only [RV]; exact ⟨_, rfl⟩)

theorem sim_ibin {op : Operator} {x y z : Int} {t u : Tok} (S : SR X.B W H s.heap) (h : ibin op x y = some z) : wpAny X.M A (binaryOp op (.int x t) (.int y u)) (PV X W s H (.int z)) NoE s := by
  have fin : ∀ {tk tk' : Nat}, PV X W s H (.int z) (.int z tk) { s with toks := tk' } := PV.here S (by simp only [RV]; exact ⟨_, rfl⟩)
  cases op <;> simp only [ibin, reduceCtorEq] at h
  · cases h; exact PyProof.Rows.add_int fin
  · cases h; exact PyProof.Rows.sub_int fin
  · split at h
    · rename_i hb
      cases h
      refine PyProof.Rows.mul_int fin ?_
      unfold IntMulOk
      rw [Bool.and_eq_true, not_and]
      intro _ q
      have q' : ((Builtin.Int.intBits x : Int) + (Builtin.Int.intBits y : Int)) > ((bitsLine : Nat) : Int) := of_decide_eq_true q
      have e1 : Builtin.Int.intBits x = intBits x := rfl
      have e2 : Builtin.Int.intBits y = intBits y := rfl
      have e3 : bitsLine = 134217728 := by decide
      rw [e1, e2, e3] at q'
      omega
    · cases h
  · split at h
    · rename_i hb
      cases h
      exact PyProof.Rows.mod_int (by omega) fin
    · cases h
  · split at h
    · rename_i hb
      cases h
      obtain ⟨rfl, hb⟩ := hb
      refine PyProof.Rows.pow_int (by omega) ?_ fin
      have e1 : Builtin.Int.intBits x = intBits x := rfl
      rw [e1]
      have : (2 : Int) ^ 27 = 134217728 := by decide
      omega
    · cases h
  · split at h
    · rename_i hb
      cases h
      exact PyProof.Rows.floordiv_int (by omega) fin (.inl (PyProof.noPylong_small (by omega)))
    · cases h
end
end Mine
end

section
set_option autoImplicit false
namespace Mine
open PySem

section
variable {X : Cx} {W W' : Wd} {s s' : Shared} {H H' : Hp} {ρ : Loc} {v : V} {w : Value} {A : Around} {env : Env} {sc : Scope} {ns : List Str} {k : Nat} {h : Heap} {B : Heap}

theorem V.items_obj (S : SR B W H h) {v : V} {w : Value} {xs : List V} (e : v.items H = some xs) (r : RV W v w) :
    ∃ a vs n c, w = .ref a ∧ h.get? a = some (sObj c vs n) ∧ RVs W xs vs.toList ∧ ((∃ ys, v = .tup ys) ∧ c = "tuple" ∨ (¬ ∃ ys, v = .tup ys) ∧ c = "list") := by
  cases v <;> simp only [V.items, reduceCtorEq] at e
  · cases e; simp only [RV] at r; obtain ⟨a, vs, n, e, g, q⟩ := r; exact ⟨a, vs, n, _, e, S.froz _ _ g, q, .inl ⟨⟨_, rfl⟩, rfl⟩⟩
  · cases e; simp only [RV] at r; obtain ⟨a, vs, n, e, g, q⟩ := r; exact ⟨a, vs, n, _, e, S.froz _ _ g, q, .inr ⟨by simp, rfl⟩⟩
  · rename_i i
    simp only [RV] at r
    obtain ⟨a, e', g⟩ := r
    split at e
    · rename_i ys he
      cases e
      obtain ⟨vs, n, g', q⟩ := S.objs i _ a he g
      exact ⟨a, vs, n, _, e', g', q, .inr ⟨by simp, rfl⟩⟩
    · cases e

theorem reads_all {f : V → Option PyData} (hf : ∀ v w d, f v = some d → RV W v w → ∃ as, Reads h w d as) : ∀ {xs : List V} {vs : List Value} {ds : List PyData}, mapO f xs = some ds → RVs W xs vs → ∃ as, ReadsAll h vs ds as
  | [], [], ds, e, _ => by simp only [mapO, Option.some.injEq] at e; subst e; exact ⟨_, .nil⟩
  | x :: xs, v :: vs, ds, e, r => by
    simp only [mapO] at e
    simp only [RVs] at r
    split at e
    · rename_i y hy
      split at e
      · rename_i ys hys
        cases e
        obtain ⟨as, q⟩ := hf x v y hy r.1
        obtain ⟨bs, p⟩ := reads_all hf hys r.2
        exact ⟨_, .cons q p⟩
      · cases e
    · cases e
  | [], _ :: _, _, _, r => by simp only [RVs] at r
  | _ :: _, [], _, _, r => by simp only [RVs] at r

theorem reads_of (S : SR B W H h) : ∀ (k : Nat) (v : V) (w : Value) (d : PyData), toPy H k v = some d → RV W v w → ∃ as, Reads h w d as := by
  intro k
  induction k with
  | zero =>
    intro v w d e r
    cases v <;> simp only [toPy, Option.some.injEq, reduceCtorEq] at e <;> subst e <;> simp only [RV] at r
    · subst r; exact ⟨_, .none⟩
    · subst r; exact ⟨_, .bool _⟩
    · obtain ⟨t, rfl⟩ := r; exact ⟨_, .int _ _⟩
    · obtain ⟨t, rfl⟩ := r; exact ⟨_, .str _ _⟩
  | succ k ih =>
    intro v w d e r
    have seq : ∀ {xs : List V} {vs : Array Value} {d : PyData} {c : List PyData → PyData}, (mapO (toPy H k) xs).map c = some d → RVs W xs vs.toList → ∃ ds as, d = c ds ∧ ReadsAll h vs.toList ds as := by
      intro xs vs d c e r
      cases q : mapO (toPy H k) xs with
      | none => rw [q] at e; cases e
      | some ds =>
        rw [q] at e
        obtain ⟨as, p⟩ := reads_all ih q r
        exact ⟨ds, as, (Option.some.inj e).symm, p⟩
    cases v <;> simp only [toPy, Option.some.injEq, reduceCtorEq] at e
    · subst e; simp only [RV] at r; subst r; exact ⟨_, .none⟩
    · subst e; simp only [RV] at r; subst r; exact ⟨_, .bool _⟩
    · subst e; simp only [RV] at r; obtain ⟨t, rfl⟩ := r; exact ⟨_, .int _ _⟩
    · subst e; simp only [RV] at r; obtain ⟨t, rfl⟩ := r; exact ⟨_, .str _ _⟩
    · simp only [RV] at r
      obtain ⟨a, vs, n, rfl, g, q⟩ := r
      obtain ⟨ds, as, rfl, p⟩ := seq e q
      exact ⟨_, .tuple (S.froz _ _ g) rfl rfl p⟩
    · simp only [RV] at r
      obtain ⟨a, vs, n, rfl, g, q⟩ := r
      obtain ⟨ds, as, rfl, p⟩ := seq e q
      exact ⟨_, .list (S.froz _ _ g) rfl rfl p⟩
    · rename_i i
      split at e
      · rename_i xs he
        simp only [RV] at r
        obtain ⟨a, rfl, g⟩ := r
        obtain ⟨vs, n, g', q⟩ := S.objs i _ a he g
        obtain ⟨ds, as, rfl, p⟩ := seq e q
        exact ⟨_, .list g' rfl rfl p⟩
      · cases e

theorem shp_shaped {d : PyData} (h : shp d = true) : SeqAt.shaped d = true := h

theorem sim_veq (hA : AOk k A) (S : SR X.B W H s.heap) {a b : V} {x y : Value} {r : Bool} (e : veq H a b = some r) (ra : RV W a x) (rb : RV W b y) {Q : Value → Shared → Prop} {E : Value → Shared → Prop} (hQ : Q (.bool r) s) :
    wpAny X.M A (compareOp .Eq x y) Q E s := by
  have deep : ∀ {u v : PyData}, toPy H depthE a = some u → toPy H depthE b = some v → shp u = true → shp v = true → r = PyData.eqv u v → wpAny X.M A (compareOp .Eq x y) Q E s := by
    intro u v eu ev su sv er
    obtain ⟨as, p⟩ := reads_of S _ _ _ _ eu ra
    obtain ⟨bs, q⟩ := reads_of S _ _ _ _ ev rb
    exact SeqAt.compareEq_shaped p q (shp_shaped su) (shp_shaped sv) (by have := hA.units; unfold cLine; omega) (er ▸ hQ)
  unfold veq at e
  split at e
  · cases e; exact deep rfl rfl rfl rfl rfl
  · cases e; exact deep rfl rfl rfl rfl rfl
  · cases e; exact deep rfl rfl rfl rfl rfl
  · cases e
    simp only [RV] at ra rb
    obtain ⟨t, rfl⟩ := ra; obtain ⟨u, rfl⟩ := rb
    refine P.eq_str ?_
    rename_i a b
    have : (a.cps.toList == b.cps.toList) = (a == b) := by
      rw [Bool.eq_iff_iff, beq_iff_eq, beq_iff_eq]
      constructor
      · intro q; cases a; cases b; exact congrArg _ (Array.toList_inj.mp q)
      · intro q; rw [q]
    rw [this]; exact hQ
  · split at e
    · rename_i u v eu ev
      split at e
      · rename_i sh
        rw [Bool.and_eq_true] at sh
        cases e; exact deep eu ev sh.1 sh.2 rfl
      · cases e
    · cases e

theorem sim_in (hA : AOk k A) (S : SR X.B W H s.heap) {a b : V} {x y : Value} {r : Bool} (e : inV H a b = some r) (ra : RV W a x) (rb : RV W b y) {Q : Value → Shared → Prop} {E : Value → Shared → Prop} :
    (Q (.bool r) s → wpAny X.M A (compareOp .In x y) Q E s) ∧ (Q (.bool (!r)) s → wpAny X.M A (compareOp .NotIn x y) Q E s) := by
  have hu : ∀ {ys : List PyData} {d : PyData}, PyData.depthAll ys ≤ 64 → A.units + 1 + min (PyData.depthAll ys) d.depth < cLine := by
    intro ys d h1
    have := hA.units
    have h2 : min (PyData.depthAll ys) d.depth ≤ PyData.depthAll ys := Nat.min_le_left _ _
    unfold cLine; omega
  unfold inV at e
  split at e
  · split at e
    · cases e
      simp only [RV] at ra rb
      obtain ⟨t, rfl⟩ := ra; obtain ⟨u, rfl⟩ := rb
      exact ⟨fun h => SB.contains h, fun h => SB.notContains h⟩
    · cases e
  · split at e
    · rename_i u ys eu ev
      split at e
      · rename_i sh
        rw [Bool.and_eq_true] at sh
        cases e
        obtain ⟨as, p⟩ := reads_of S _ _ _ _ eu ra
        obtain ⟨bs, q⟩ := reads_of S _ _ _ _ ev rb
        have h1 : PyData.canLay0 u = true := SeqAt.canLay_of_shaped sh.1
        have h2 : PyData.canLayAll0 ys = true := SeqAt.canLay_of_shaped (d := .list ys) sh.2
        have h3 : PyData.depthAll ys + 1 ≤ 64 := SeqAt.depth_of_shaped (d := .list ys) sh.2
        exact ⟨fun h => SeqAt.in_list_reads q p h2 h1 (hu (by omega)) h, fun h => SeqAt.notIn_list_reads q p h2 h1 (hu (by omega)) h⟩
      · cases e
    · rename_i u ys eu ev
      split at e
      · rename_i sh
        rw [Bool.and_eq_true] at sh
        cases e
        obtain ⟨as, p⟩ := reads_of S _ _ _ _ eu ra
        obtain ⟨bs, q⟩ := reads_of S _ _ _ _ ev rb
        have h1 : PyData.canLay0 u = true := SeqAt.canLay_of_shaped sh.1
        have h2 : PyData.canLayAll0 ys = true := SeqAt.canLay_of_shaped (d := .tuple ys) sh.2
        have h3 : PyData.depthAll ys + 1 ≤ 64 := SeqAt.depth_of_shaped (d := .tuple ys) sh.2
        exact ⟨fun h => SeqAt.in_tuple_reads q p h2 h1 (hu (by omega)) h, fun h => SeqAt.notIn_tuple_reads q p h2 h1 (hu (by omega)) h⟩
      · cases e
    · cases e

theorem sim_vne (hA : AOk k A) (S : SR X.B W H s.heap) {a b : V} {x y : Value} {r : Bool} (e : veq H a b = some r) (ra : RV W a x) (rb : RV W b y) {Q : Value → Shared → Prop} {E : Value → Shared → Prop} (hQ : Q (.bool (!r)) s) :
    wpAny X.M A (compareOp .NotEq x y) Q E s := by
  have deep : ∀ {u v : PyData}, toPy H depthE a = some u → toPy H depthE b = some v → shp u = true → shp v = true → r = PyData.eqv u v → wpAny X.M A (compareOp .NotEq x y) Q E s := by
    intro u v eu ev su sv er
    obtain ⟨as, p⟩ := reads_of S _ _ _ _ eu ra
    obtain ⟨bs, q⟩ := reads_of S _ _ _ _ ev rb
    exact SeqAt.compareNe_shaped p q (shp_shaped su) (shp_shaped sv) (by have := hA.units; unfold cLine; omega) (er ▸ hQ)
  unfold veq at e
  split at e
  · cases e; exact deep rfl rfl rfl rfl rfl
  · cases e; exact deep rfl rfl rfl rfl rfl
  · cases e; exact deep rfl rfl rfl rfl rfl
  · cases e
    simp only [RV] at ra rb
    obtain ⟨t, rfl⟩ := ra; obtain ⟨u, rfl⟩ := rb
    refine P.ne_str ?_
    rename_i a b
    have : (a.cps.toList != b.cps.toList) = !(a == b) := by
      rw [bne, Bool.not_eq_eq_eq_not, Bool.not_not, Bool.eq_iff_iff, beq_iff_eq, beq_iff_eq]
      constructor
      · intro q; cases a; cases b; exact congrArg _ (Array.toList_inj.mp q)
      · intro q; rw [q]
    rw [this]; exact hQ
  · split at e
    · rename_i u v eu ev
      split at e
      · rename_i sh
        rw [Bool.and_eq_true] at sh
        cases e; exact deep eu ev sh.1 sh.2 rfl
      · cases e
    · cases e

theorem is_none {a : V} {x : Value} (r : RV W a x) : plainIs x .none = true ∧ (x == .none) = decide (a = .none) := by
  cases a <;> simp only [RV] at r
  · subst r; exact ⟨rfl, by simp⟩
  · subst r; exact ⟨rfl, by simp⟩
  · obtain ⟨t, rfl⟩ := r; exact ⟨rfl, by simp⟩
  · obtain ⟨t, rfl⟩ := r; exact ⟨rfl, by simp⟩
  · obtain ⟨a, _, _, rfl, _⟩ := r; exact ⟨rfl, by simp⟩
  · obtain ⟨a, _, _, rfl, _⟩ := r; exact ⟨rfl, by simp⟩
  · obtain ⟨a, rfl, _⟩ := r; exact ⟨rfl, by simp⟩
theorem is_bool {a : V} {x : Value} {b : Bool} (r : RV W a x) : plainIs x (.bool b) = true ∧ (x == .bool b) = decide (a = .bool b) := by
  cases a <;> simp only [RV] at r
  · subst r; exact ⟨rfl, by simp⟩
  · subst r; refine ⟨rfl, ?_⟩; rw [Bool.eq_iff_iff]; simp
  · obtain ⟨t, rfl⟩ := r; exact ⟨rfl, by simp⟩
  · obtain ⟨t, rfl⟩ := r; exact ⟨rfl, by simp⟩
  · obtain ⟨a, _, _, rfl, _⟩ := r; exact ⟨rfl, by simp⟩
  · obtain ⟨a, _, _, rfl, _⟩ := r; exact ⟨rfl, by simp⟩
  · obtain ⟨a, rfl, _⟩ := r; exact ⟨rfl, by simp⟩

theorem sim_cmpV (hA : AOk k A) (S : SR X.B W H s.heap) {op : CmpOp} {a b : V} {x y : Value} {r : Bool} (e : cmpV H op a b = some r) (ra : RV W a x) (rb : RV W b y) {Q : Value → Shared → Prop} {E : Value → Shared → Prop} (hQ : Q (.bool r) s) :
    wpAny X.M A (compareOp op x y) Q E s := by
  unfold cmpV at e
  split at e
  · cases e; simp only [RV] at ra rb; obtain ⟨t, rfl⟩ := ra; obtain ⟨u, rfl⟩ := rb; exact P.lt_int hQ
  · cases e; simp only [RV] at ra rb; obtain ⟨t, rfl⟩ := ra; obtain ⟨u, rfl⟩ := rb; exact P.le_int hQ
  · cases e; simp only [RV] at ra rb; obtain ⟨t, rfl⟩ := ra; obtain ⟨u, rfl⟩ := rb; exact P.gt_int hQ
  · cases e; simp only [RV] at ra rb; obtain ⟨t, rfl⟩ := ra; obtain ⟨u, rfl⟩ := rb; exact P.ge_int hQ
  · cases e; simp only [RV] at ra rb; obtain ⟨t, rfl⟩ := ra; obtain ⟨u, rfl⟩ := rb; exact P.le_str hQ
  · exact sim_veq hA S e ra rb hQ
  · cases q : veq H a b with
    | none => rw [q] at e; cases e
    | some r' => rw [q] at e; cases e; exact sim_vne hA S q ra rb hQ
  · cases e; simp only [RV] at rb; subst rb; exact wpAny_is_plain (is_none ra).1 (by rw [(is_none ra).2]; exact hQ)
  · cases e; simp only [RV] at rb; subst rb; exact wpAny_is_plain (is_bool ra).1 (by rw [(is_bool ra).2]; exact hQ)
  · cases e; simp only [RV] at rb; subst rb; exact wpAny_isNot_plain (is_none ra).1 (by rw [(is_none ra).2]; exact hQ)
  · cases e; simp only [RV] at rb; subst rb; exact wpAny_isNot_plain (is_bool ra).1 (by rw [(is_bool ra).2]; exact hQ)
  · exact (sim_in hA S e ra rb).1 hQ
  · cases q : inV H a b with
    | none => rw [q] at e; cases e
    | some r' => rw [q] at e; cases e; exact (sim_in hA S q ra rb).2 hQ
  · cases e

theorem sim_truthy (S : SR X.B W H s.heap) {a : V} {x : Value} {b : Bool} (e : truthyV H a = some b) (ra : RV W a x) {Q : Bool → Shared → Prop} {E : Value → Shared → Prop} (hQ : ∀ tk, Q b { s with toks := tk }) :
    wpAny X.M A (truthy x) Q E s := by
  unfold truthyV at e
  split at e
  · cases e; simp only [RV] at ra; subst ra; exact fun _ _ _ => hQ s.toks
  · cases e; simp only [RV] at ra; subst ra; exact wpAny_truthy_bool (hQ s.toks)
  · cases e; simp only [RV] at ra; obtain ⟨t, rfl⟩ := ra; exact P.truthy_int (hQ s.toks)
  · split at e
    · rename_i str hl
      cases e; simp only [RV] at ra; obtain ⟨t, rfl⟩ := ra
      have h2 : ((str.length : Int) != 0) = (str.length != 0) := by rw [Bool.eq_iff_iff]; simp
      unfold lid at hl
      exact P.truthy_str (by omega) (by rw [h2]; exact hQ _)
    · cases e
  · split at e
    · rename_i xs hx
      split at e
      · rename_i hl
        cases e
        obtain ⟨a, vs, n, c, rfl, g, q, hc⟩ := V.items_obj S hx ra
        have hn : xs.length = vs.size := q.length.trans (Array.length_toList ..)
        have he : (!xs.isEmpty) = (!vs.isEmpty) := by
          congr 1
          rw [Bool.eq_iff_iff, List.isEmpty_iff_length_eq_zero, Array.isEmpty_iff_size_eq_zero, hn]
        unfold lid at hl
        rw [he] at hQ
        rcases hc with ⟨_, rfl⟩ | ⟨_, rfl⟩
        · exact PyProof.Rows.truthy_tuple ⟨_, g, rfl, n, rfl⟩ (by omega) (hQ _)
        · exact wpAny_truthy_list ⟨_, g, rfl, n, rfl⟩ (by omega) (hQ _)
      · cases e
    · cases e

theorem seqIndex_of {i : Int} {n j : Nat} (h : idx i n = some j) : seqIndex? i n = some j ∧ 0 ≤ i ∧ i < 2 ^ 63 := by
  unfold idx at h
  by_cases q : 0 ≤ i ∧ i < n ∧ i < 9223372036854775808
  · rw [if_pos q] at h
    cases h
    refine ⟨?_, q.1, q.2.2⟩
    unfold seqIndex?
    have h1 : ¬ i < 0 := Int.not_lt.mpr q.1
    simp only [h1, if_false]
    rw [if_pos (by rw [Bool.and_eq_true, decide_eq_true_eq, decide_eq_true_eq]; exact ⟨q.1, q.2.1⟩)]
  · rw [if_neg q] at h; cases h

theorem sim_item (S : SR X.B W H s.heap) {a i v : V} {x y : Value} (e : subV H a i = some v) (ra : RV W a x) (ri : RV W i y) {Q : Value → Shared → Prop} {E : Value → Shared → Prop} (hQ : ∀ w tk, RV W v w → Q w { s with toks := tk }) {value slice : Expr}
    (hs : subscripted slice false x y = operate [x, y] (getItem x y)) : wpAny X.M A (PyProof.Rows.subscriptTail value slice x y) Q E s := by
  unfold subV at e
  split at e
  · split at e
    · rename_i str i' hh
      cases e
      simp only [RV] at ra ri
      obtain ⟨t, rfl⟩ := ra; obtain ⟨u, rfl⟩ := ri
      exact PyProof.Rows.tail_any (typeIs_str s _ t) F.slot_str_getitem.lookup (SB.getItem hh.1 hh.2 (hQ _ _ (by simp only [RV]; exact ⟨_, rfl⟩))) hs
    · cases e
  · rename_i i' _
    split at e
    · rename_i xs hx
      split at e
      · rename_i j hj
        simp only [RV] at ri
        obtain ⟨u, rfl⟩ := ri
        obtain ⟨a, vs, n, c, rfl, g, q, hc⟩ := V.items_obj S hx ra
        obtain ⟨w, hw, rw'⟩ := q.get e
        have hn : xs.length = vs.size := q.length.trans (Array.length_toList ..)
        rw [Array.getElem?_toList] at hw
        obtain ⟨k1, k2, k3⟩ := seqIndex_of hj
        rcases hc with ⟨_, rfl⟩ | ⟨_, rfl⟩
        · have ht : PyProof.Rows.IsTup s.heap a vs := ⟨_, g, rfl, n, rfl⟩
          exact PyProof.Rows.tail_any ht.typeIs PyProof.Rows.slot_tuple_getitem.lookup (PyProof.Rows.getItem_tuple ht (Int.le_trans (by decide) k2) k3 (hn ▸ k1) hw (hQ w s.toks rw')) hs
        · have hl : s.heap.IsList a vs := ⟨_, g, rfl, n, rfl⟩
          refine PyProof.Rows.tail_any hl.typeIs slot_list_getitem.lookup ?_ hs
          have hj' : j = i'.toNat := by
            unfold idx at hj
            by_cases q : 0 ≤ i' ∧ i' < xs.length ∧ i' < 9223372036854775808
            · rw [if_pos q] at hj; exact (Option.some.inj hj).symm
            · rw [if_neg q] at hj; cases hj
          subst hj'
          exact wpAny_getItem_list hl k2 k3 hw (hQ w s.toks rw')
      · cases e
    · cases e
  · cases e
end
end Mine
end

section
set_option autoImplicit false
namespace Mine
open PySem

/-- each call of the text's own defs does as the oracle says -/
noncomputable def OS (X : Cx) (G : Glob) (c : Ctx) (k : Nat) : Prop :=
  ∀ (n : Nat) (args : List V) (H : Hp) (v : V) (fr : Bool) (H' : Hp), c.F n args H = some (v, fr, H') → ∀ f, G.fn.lookup f = some n →
    ∃ fa fo fd, X.gv f = some (.ref fa) ∧ X.B.get? fa = some fo ∧ fo.data = .func fd ∧
    ∀ (A : Around) (s : Shared) (W : Wd) (ws : List Value), AOk k A → SR X.B W H s.heap → RVs W args ws →
      codeAny X.M A (.call (.ref fa) ⟨ws, []⟩) (fun r s' => ∃ w, r = .ok (.ret w) ∧ (fr = true → ∀ xs, v = .lst xs → PL X W s H' (.list xs) w s') ∧ PV X W s H' v w s') s

noncomputable def tyName : Ty → String
  | .int => "int" | .bool => "bool" | .str => "str" | .tuple => "tuple" | .list => "list"

structure Glk (X : Cx) (G : Glob) : Prop where
  gc : ∀ x v, G.gc.lookup x = some v → ∃ w, X.gv x = some w ∧ RV ⟨fun _ => none, []⟩ v w
  bi : ∀ x, G.fn.lookup x = none → ∀ b, biOf x = some b → X.gv x = some (match b with
    | .len => .builtin "len" | .isinstance => .builtin "isinstance" | .all => .builtin "all" | .tuple => .type "tuple" | .list => .type "list" | .sorted => .builtin "sorted"
    | .set => .type "set" | .int => .type "int" | .abs => .builtin "abs" | .min => .builtin "min" | .max => .builtin "max" | .range => .type "range" | .zip => .type "zip" | .enumerate => .type "enumerate" | .dict => .type "dict")
  ty : ∀ x t, tyNm x = some t → X.gv x = some (.type (tyName t))

section
variable (X : Cx) (c : Ctx) (k : Nat) (ns : List Str) (sc : Scope)

noncomputable def SimV (e : Expr) (ce : E) : Prop := ∀ (env : Env) (ρ : Loc) (H : Hp) (v : V) (H' : Hp) (A : Around) (s : Shared) (W : Wd), evalE c ce ρ H = some (v, H') → EnvOk X sc env → FR W env ns sc ρ s.heap → AOk k A → SR X.B W H s.heap →
  wpAny X.M A (eval e env) (PV X W s H' v) NoE s
noncomputable def SimT (e : Expr) (ce : E) : Prop := ∀ (env : Env) (ρ : Loc) (H : Hp) (v : V) (H' : Hp) (b : Bool) (A : Around) (s : Shared) (W : Wd), evalE c ce ρ H = some (v, H') → truthyV H' v = some b → EnvOk X sc env → FR W env ns sc ρ s.heap → AOk k A → SR X.B W H s.heap →
  wpAny X.M A (isTrue e env (eval e env)) (PB X W s H' b) NoE s
noncomputable def SimL (e : Expr) (l : L) : Prop := ∀ (env : Env) (ρ : Loc) (H : Hp) (o : O) (H' : Hp) (A : Around) (s : Shared) (W : Wd), evalL c l ρ H = some (o, H') → EnvOk X sc env → FR W env ns sc ρ s.heap → AOk k A → SR X.B W H s.heap →
  wpAny X.M A (eval e env) (PL X W s H' o) NoE s
/-- neither a star nor a set display -/
noncomputable def plainE : Expr → Bool
  | .Starred _ _ => false
  | .Set _ _ _ => false
  | _ => true
structure SimE (e : Expr) (ce : E) : Prop where
  val : SimV X c k ns sc e ce
  test : SimT X c k ns sc e ce
  plain : plainE e = true
inductive SimEs : List Expr → List E → Prop
  | nil : SimEs [] []
  | cons {e : Expr} {ce : E} {es : List Expr} {ces : List E} : SimE X c k ns sc e ce → SimEs es ces → SimEs (e :: es) (ce :: ces)
end

inductive PVs (X : Cx) (W : Wd) (s : Shared) (H' : Hp) (vs : List V) (ws : List Value) (s' : Shared) : Prop
  | mk (W' : Wd) (t : Tr W W' s.heap s'.heap) (S : SR X.B W' H' s'.heap) (r : RVs W' vs ws) (q : Rest s s') : PVs X W s H' vs ws s'

section
variable {X : Cx} {c : Ctx} {k : Nat} {ns : List Str} {sc : Scope} {W W' : Wd} {s s' : Shared} {H H' : Hp} {ρ : Loc} {v : V} {w : Value} {A : Around} {env : Env}

theorem test_plain {e : Expr} {ce : E} (hv : SimV X c k ns sc e ce) (he : ∀ env whole, isTrue e env whole = (do let v ← whole; standAt e.pos; holding [v] (truthy v))) : SimT X c k ns sc e ce := by
  intro env ρ H v H' b A s W ev tv hE f hA S
  refine PyProof.Rows.isTrue_plain (wpAny_mono (hv env ρ H v H' A s W ev hE f hA S) (fun w s₁ p => ?_) fun _ _ x => x.elim) (he env _)
  obtain ⟨W1, t1, S1, r1, q1⟩ := p
  exact sim_truthy S1 tv r1 fun tk => PB.trans t1 q1 (PB.here S1)

theorem starEach_plain {es : List Expr} {ces : List E} (h : SimEs X c k ns sc es ces) (env : Env) : starEach es env = es.map fun e => (false, eval e env) := by
  induction h with
  | nil => rfl
  | @cons e ce es ces he _ ih =>
    have hp := he.plain
    cases e <;> simp only [plainE, Bool.false_eq_true] at hp <;> simp only [starEach, ih, List.map_cons]
theorem backTo_plain (pos : Pos) (es : List Expr) (env : Env) : backTo pos (es.map fun e => (false, eval e env)) = es.map fun e => (false, eval e env) := by
  simp [backTo, List.map_map, Function.comp_def]

theorem sim_spliced {es : List Expr} {ces : List E} (h : SimEs X c k ns sc es ces) (hE : EnvOk X sc env) (hA : AOk k A) :
    ∀ {W : Wd} {s : Shared} {H : Hp} {vs : List V}, evalEs c ces ρ H = some (vs, H') → FR W env ns sc ρ s.heap → SR X.B W H s.heap →
    wpAny X.M A (spliced (es.map fun e => (false, eval e env))) (PVs X W s H' vs) NoE s := by
  induction h with
  | nil =>
    intro W s H vs e f S
    simp only [evalEs, Option.some.injEq, Prod.mk.injEq] at e
    obtain ⟨rfl, rfl⟩ := e
    exact Calls.spliced_nil ⟨W, .refl _ _, S, by simp only [RVs], .refl _⟩
  | @cons e ce es ces he _ ih =>
    intro W s H vs ev f S
    simp only [evalEs] at ev
    split at ev
    · rename_i v H1 e1
      split at ev
      · rename_i vs' H2 e2
        simp only [Option.some.injEq, Prod.mk.injEq] at ev
        obtain ⟨rfl, rfl⟩ := ev
        refine Calls.spliced_cons (wpAny_mono (he.val env ρ H v H1 A s W e1 hE f hA S) (fun w s₁ p => ?_) fun _ _ x => x.elim)
        obtain ⟨W1, t1, S1, r1, q1⟩ := p
        refine wpAny_mono (ih e2 (f.move t1) S1) (fun ws s₂ p => ?_) fun _ _ x => x
        obtain ⟨W2, t2, S2, r2, q2⟩ := p
        exact ⟨W2, t1.trans t2, S2, by simp only [RVs]; exact ⟨r1.mono t2.le, r2⟩, q1.trans q2⟩
      · cases ev
    · cases ev

theorem SimEs.length {es : List Expr} {ces : List E} (h : SimEs X c k ns sc es ces) : es.length = ces.length := by
  induction h with
  | nil => rfl
  | cons _ _ ih => simp [ih]

theorem spliced_all {es : List Expr} {ces : List E} (h : SimEs X c k ns sc es ces) (hE : EnvOk X sc env) (hA : AOk k A) {vs : List V} (pos : Pos) (ev : evalEs c ces ρ H = some (vs, H')) (f : FR W env ns sc ρ s.heap) (S : SR X.B W H s.heap) :
    wpAny X.M A (spliced (backTo pos (starEach es env))) (PVs X W s H' vs) NoE s := by
  rw [starEach_plain h, backTo_plain]; exact sim_spliced h hE hA ev f S

/-- the arguments of a call -/
theorem sim_args {es : List Expr} {ces : List E} (h : SimEs X c k ns sc es ces) (hE : EnvOk X sc env) (hA : AOk k A) {vs : List V} (pos : Pos) {fv : Value} (ev : evalEs c ces ρ H = some (vs, H')) (f : FR W env ns sc ρ s.heap) (S : SR X.B W H s.heap)
    {Q : Args → Shared → Prop} {EE : Value → Shared → Prop} (hQ : ∀ ws s', PVs X W s H' vs ws s' → Q ⟨ws, []⟩ s') :
    wpAny X.M A (evalArgs fv true (backTo pos (starEach es env)) []) Q EE s := by
  rw [starEach_plain h, backTo_plain]
  have := sim_spliced h hE hA ev f S
  cases es with
  | nil =>
    cases h
    simp only [evalEs, Option.some.injEq, Prod.mk.injEq] at ev
    obtain ⟨rfl, rfl⟩ := ev
    exact PyProof.Rows.evalArgs_nil3 (hQ _ _ ⟨W, .refl _ _, S, by simp only [RVs], .refl _⟩)
  | cons e es =>
    exact Calls.evalArgs_plain (wpAny_mono this (fun ws s' p => hQ ws s' p) fun _ _ x => x.elim)

theorem noStars (pos : Pos) {es : List Expr} {ces : List E} (h : SimEs X c k ns sc es ces) (env : Env) : (backTo pos (starEach es env)).any (·.1) = false := by
  rw [starEach_plain h, backTo_plain, List.any_map]
  simp [Function.comp_def]


theorem get_none_size (h : Heap) : h.get? h.objs.size = none := by
  cases q : h.get? h.objs.size with
  | none => rfl
  | some o => exact absurd (Heap.lt_size q) (Nat.lt_irrefl _)

/-- what is put onto the heap: a frozen tuple -/
theorem PV.tuple {vs : List V} {ws : List Value} {n : Nat} (S : SR X.B W H s.heap) (r : RVs W vs ws) :
    PV X W s H (.tup vs) (.ref s.heap.objs.size) { s with heap := s.heap.push (sObj "tuple" ws.toArray n) } := by
  have hn := get_none_size s.heap
  have hk : ∀ b o, s.heap.get? b = some o → (s.heap.push (sObj "tuple" ws.toArray n)).get? b = some o := fun b o e => Heap.get?_push_of_some _ e
  have hz : W.σ s.heap.objs.size = none := by
    cases q : W.σ s.heap.objs.size with
    | none => rfl
    | some o => rw [S.froz _ _ q] at hn; cases hn
  have hf : s.heap.objs.size ∉ W.φ := fun m => S.mem_alive m hn
  refine ⟨W.freeze s.heap.objs.size (sObj "tuple" ws.toArray n), (Tr.grow hk).freeze hz hn, (S.grow hk).freeze (Heap.get?_push_size _ rfl) hz hf, ?_, ⟨rfl, rfl, rfl⟩⟩
  simp only [RV]
  exact ⟨_, ws.toArray, n, rfl, Wd.freeze_self, by simpa using r.mono (Wd.le_freeze hz)⟩
/-- what is put onto the heap: a list -/
theorem PL.list {vs : List V} {ws : List Value} {n : Nat} (S : SR X.B W H s.heap) (r : RVs W vs ws) :
    PL X W s H (.list vs) (.ref s.heap.objs.size) { s with heap := s.heap.push (sObj "list" ws.toArray n) } := by
  have hn := get_none_size s.heap
  have hk : ∀ b o, s.heap.get? b = some o → (s.heap.push (sObj "list" ws.toArray n)).get? b = some o := fun b o e => Heap.get?_push_of_some _ e
  have hz : W.σ s.heap.objs.size = none := by
    cases q : W.σ s.heap.objs.size with
    | none => rfl
    | some o => rw [S.froz _ _ q] at hn; cases hn
  have hf : s.heap.objs.size ∉ W.φ := fun m => S.mem_alive m hn
  exact ⟨W, _, rfl, Tr.grow hk, S.grow hk, ⟨ws.toArray, n, Heap.get?_push_size _ rfl, by simpa using r⟩, hz, hf, hn, ⟨rfl, rfl, rfl⟩⟩


theorem evalEs_length : ∀ {ces : List E} {H H' : Hp} {vs : List V}, evalEs c ces ρ H = some (vs, H') → vs.length = ces.length
  | [], _, _, _, e => by simp only [evalEs, Option.some.injEq, Prod.mk.injEq] at e; rw [← e.1]; rfl
  | _ :: ces, _, _, _, e => by
    simp only [evalEs] at e
    split at e
    · split at e
      · rename_i e2
        simp only [Option.some.injEq, Prod.mk.injEq] at e
        rw [← e.1, List.length_cons, List.length_cons, evalEs_length e2]
      · cases e
    · cases e

/-- tuples -/
theorem sim_tuple {es : List Expr} {ces : List E} (h : SimEs X c k ns sc es ces) (hl : es.length ≤ sizeLine) {kk : Nat} {pos : Pos} : SimV X c k ns sc (.Tuple es kk pos) (.tup ces) := by
  intro env ρ H v H' A s W ev hE f hA S
  simp only [evalE, Option.map_eq_some_iff] at ev
  obtain ⟨⟨vs, H1⟩, e1, e2⟩ := ev
  cases e2
  refine PyProof.Rows.Tuple_ (wpAny_mono (spliced_all h hE hA pos e1 f S) (fun ws s₁ p => ?_) fun _ _ x => x.elim)
  obtain ⟨W1, t1, S1, r1, q1⟩ := p
  exact wpAny_newTuple (PV.trans t1 q1 (PV.tuple S1 r1)) (by rw [← r1.length, evalEs_length e1, ← h.length]; exact hl)
theorem sim_disp {es : List Expr} {ces : List E} (h : SimEs X c k ns sc es ces) (hl : es.length ≤ sizeLine) {pos : Pos} : SimL X c k ns sc (.List es pos) (.disp ces) := by
  intro env ρ H v H' A s W ev hE f hA S
  simp only [evalL, Option.map_eq_some_iff] at ev
  obtain ⟨⟨vs, H1⟩, e1, e2⟩ := ev
  cases e2
  refine PyProof.Rows.List_ (wpAny_mono (spliced_all h hE hA pos e1 f S) (fun ws s₁ p => ?_) fun _ _ x => x.elim)
  obtain ⟨W1, t1, S1, r1, q1⟩ := p
  exact wpAny_newList (PL.trans t1 q1 (PL.list S1 r1)) (by rw [← r1.length, evalEs_length e1, ← h.length]; exact hl)

/-- frozen or boxed -/
theorem sim_fb {e : Expr} {l : L} (h : SimL X c k ns sc e l) {b : Bool} : SimV X c k ns sc e (if b then .box l else .frz l) := by
  intro env ρ H v H' A s W ev hE f hA S
  cases b
  · simp only [Bool.false_eq_true, if_false, evalE] at ev
    split at ev
    · rename_i o H1 e1
      rw [Option.map_eq_some_iff] at ev
      obtain ⟨v', e2, e3⟩ := ev
      cases e3
      cases o <;> simp only [frzO, Option.some.injEq, reduceCtorEq] at e2
      · subst e2
        exact wpAny_mono (h env ρ H _ _ A s W e1 hE f hA S) (fun _ _ p => p.freeze) fun _ _ x => x
    · cases ev
  · simp only [if_true, evalE] at ev
    split at ev
    · rename_i o H1 e1
      simp only [Option.some.injEq, Prod.mk.injEq] at ev
      obtain ⟨rfl, rfl⟩ := ev
      exact wpAny_mono (h env ρ H _ _ A s W e1 hE f hA S) (fun _ _ p => p.box S) fun _ _ x => x
    · cases ev

/-- two values in turn, then a step -/
theorem sim_two {a b : Expr} {ca cb : E} (ha : SimV X c k ns sc a ca) (hb : SimV X c k ns sc b cb) (hE : EnvOk X sc env) (hA : AOk k A) (f : FR W env ns sc ρ s.heap) (S : SR X.B W H s.heap) {x y : V} {H1 H2 : Hp} (e1 : evalE c ca ρ H = some (x, H1)) (e2 : evalE c cb ρ H1 = some (y, H2))
    {Q : Value → Value → Shared → Prop} {EE : Value → Shared → Prop} (hQ : ∀ u w s' W', Tr W W' s.heap s'.heap → SR X.B W' H2 s'.heap → RV W' x u → RV W' y w → Rest s s' → Q u w s') :
    wpAny X.M A (eval a env) (fun u s₁ => wpAny X.M A (eval b env) (fun w s₂ => Q u w s₂) EE s₁) EE s := by
  refine wpAny_mono (ha env ρ H x H1 A s W e1 hE f hA S) (fun u s₁ p => ?_) fun _ _ x => x.elim
  obtain ⟨W1, t1, S1, r1, q1⟩ := p
  refine wpAny_mono (hb env ρ H1 y H2 A s₁ W1 e2 hE (f.move t1) hA S1) (fun w s₂ p => ?_) fun _ _ x => x.elim
  obtain ⟨W2, t2, S2, r2, q2⟩ := p
  exact hQ u w s₂ W2 (t1.trans t2) S2 (r1.mono t2.le) r2 (q1.trans q2)

theorem sim_sub {a i : Expr} {ca ci : E} (ha : SimV X c k ns sc a ca) (hi : SimV X c k ns sc i ci) {pos : Pos} (hs : ∀ x y, subscripted i false x y = operate [x, y] (getItem x y)) : SimV X c k ns sc (.Subscript a i pos) (.sub ca ci) := by
  intro env ρ H v H' A s W ev hE f hA S
  simp only [evalE] at ev
  split at ev
  · rename_i x H1 e1
    split at ev
    · rename_i y H2 e2
      rw [Option.map_eq_some_iff] at ev
      obtain ⟨v', e3, e4⟩ := ev
      cases e4
      refine PyProof.Rows.Subscript_ (sim_two ha hi hE hA f S e1 e2 fun u w s' W' t S' r1 r2 q => ?_)
      exact sim_item S' e3 r1 r2 (fun z tk rz => PV.trans t q (PV.here S' rz)) (hs u w)
    · cases ev
  · cases ev

theorem sim_not {e : Expr} {ce : E} (he : SimE X c k ns sc e ce) {pos : Pos} : SimE X c k ns sc (.UnaryOp .Not e pos) (.not ce) := by
  refine ⟨fun env ρ H v H' A s W ev hE f hA S => ?_, fun env ρ H v H' bb A s W ev tv hE f hA S => ?_, rfl⟩
  · simp only [evalE] at ev
    split at ev
    · rename_i x H1 e1
      rw [Option.map_eq_some_iff] at ev
      obtain ⟨b, e2, e3⟩ := ev
      cases e3
      refine wpAny_UnaryOp (wpAny_mono (he.val env ρ H x _ A s W e1 hE f hA S) (fun w s₁ p => ?_) fun _ _ x => x)
      obtain ⟨W1, t1, S1, r1, q1⟩ := p
      exact PyProof.Rows.not_of (sim_truthy S1 e2 r1 fun tk => PV.trans t1 q1 (PV.here S1 (by simp only [RV])))
    · cases ev
  · simp only [evalE] at ev
    split at ev
    · rename_i x H1 e1
      rw [Option.map_eq_some_iff] at ev
      obtain ⟨b, e2, e3⟩ := ev
      cases e3
      simp only [truthyV, Option.some.injEq] at tv
      subst tv
      refine wpAny_isTrue_Not (wpAny_mono (he.test env ρ H x _ b A s W e1 e2 hE f hA S) (fun b' s₁ p => ?_) fun _ _ x => x)
      obtain ⟨rfl, W1, t1, S1, q1⟩ := p
      exact ⟨rfl, W1, t1, S1, q1⟩
    · cases ev

theorem sim_and {es : List Expr} {ces : List E} (h : SimEs X c k ns sc es ces) (hE : EnvOk X sc env) (hA : AOk k A) {pos : Pos} : ∀ {W : Wd} {s : Shared} {H : Hp}, evalAnd c ces ρ H = some (v, H') → FR W env ns sc ρ s.heap → SR X.B W H s.heap →
    wpAny X.M A (boolOp pos .And (evalEach es env)) (PV X W s H' v) NoE s := by
  induction h with
  | nil => intro W s H ev; simp only [evalAnd, reduceCtorEq] at ev
  | @cons e ce es ces he hes ih =>
    intro W s H ev f S
    cases hes with
    | nil => simp only [evalAnd] at ev; exact he.val env ρ H v H' A s W ev hE f hA S
    | @cons e2 ce2 es ces he2 hes =>
      simp only [evalAnd] at ev
      show wpAny X.M A (do let v ← eval e env; standAt pos; let t ← holding [v] (truthy v); match BoolOp.And, t with | .And, false | .Or, true => pure v | _, _ => boolOp pos .And (evalEach (e2 :: es) env)) _ _ s
      split at ev
      · rename_i x H1 e1
        refine wpAny_bind (wpAny_mono (he.val env ρ H x H1 A s W e1 hE f hA S) (fun w s₁ p => ?_) fun _ _ x => x)
        obtain ⟨W1, t1, S1, r1, q1⟩ := p
        split at ev
        · rename_i tr
          refine wpAny_bind (wpAny_standAt (wpAny_bind (wpAny_holding (sim_truthy S1 tr r1 fun tk => ?_))))
          exact wpAny_mono (ih (s := { s₁ with toks := tk }) ev (f.move t1) S1) (fun _ _ p => PV.trans (s' := { s₁ with toks := tk }) t1 ⟨q1.gens, q1.drawn, q1.os⟩ p) fun _ _ x => x
        · rename_i tr
          cases ev
          refine wpAny_bind (wpAny_standAt (wpAny_bind (wpAny_holding (sim_truthy S1 tr r1 fun tk => ?_))))
          exact wpAny_pure (PV.trans t1 q1 (PV.here S1 r1))
        · cases ev
      · cases ev
theorem sim_or {es : List Expr} {ces : List E} (h : SimEs X c k ns sc es ces) (hE : EnvOk X sc env) (hA : AOk k A) {pos : Pos} : ∀ {W : Wd} {s : Shared} {H : Hp}, evalOr c ces ρ H = some (v, H') → FR W env ns sc ρ s.heap → SR X.B W H s.heap →
    wpAny X.M A (boolOp pos .Or (evalEach es env)) (PV X W s H' v) NoE s := by
  induction h with
  | nil => intro W s H ev; simp only [evalOr, reduceCtorEq] at ev
  | @cons e ce es ces he hes ih =>
    intro W s H ev f S
    cases hes with
    | nil => simp only [evalOr] at ev; exact he.val env ρ H v H' A s W ev hE f hA S
    | @cons e2 ce2 es ces he2 hes =>
      simp only [evalOr] at ev
      show wpAny X.M A (do let v ← eval e env; standAt pos; let t ← holding [v] (truthy v); match BoolOp.Or, t with | .And, false | .Or, true => pure v | _, _ => boolOp pos .Or (evalEach (e2 :: es) env)) _ _ s
      split at ev
      · rename_i x H1 e1
        refine wpAny_bind (wpAny_mono (he.val env ρ H x H1 A s W e1 hE f hA S) (fun w s₁ p => ?_) fun _ _ x => x)
        obtain ⟨W1, t1, S1, r1, q1⟩ := p
        split at ev
        · rename_i tr
          cases ev
          refine wpAny_bind (wpAny_standAt (wpAny_bind (wpAny_holding (sim_truthy S1 tr r1 fun tk => ?_))))
          exact wpAny_pure (PV.trans t1 q1 (PV.here S1 r1))
        · rename_i tr
          refine wpAny_bind (wpAny_standAt (wpAny_bind (wpAny_holding (sim_truthy S1 tr r1 fun tk => ?_))))
          exact wpAny_mono (ih (s := { s₁ with toks := tk }) ev (f.move t1) S1) (fun _ _ p => PV.trans (s' := { s₁ with toks := tk }) t1 ⟨q1.gens, q1.drawn, q1.os⟩ p) fun _ _ x => x
        · cases ev
      · cases ev
theorem sim_allAnd {es : List Expr} {ces : List E} (h : SimEs X c k ns sc es ces) (hE : EnvOk X sc env) (hA : AOk k A) {b : Bool} : ∀ {W : Wd} {s : Shared} {H : Hp}, evalAnd c ces ρ H = some (v, H') → truthyV H' v = some b → FR W env ns sc ρ s.heap → SR X.B W H s.heap →
    wpAny X.M A (allTrue .And es env) (PB X W s H' b) NoE s := by
  induction h with
  | nil => intro W s H ev; simp only [evalAnd, reduceCtorEq] at ev
  | @cons e ce es ces he hes ih =>
    intro W s H ev tv f S
    rw [arm_allTrue_cons]
    cases hes with
    | nil =>
      simp only [evalAnd] at ev
      refine wpAny_bind (wpAny_mono (he.test env ρ H v H' b A s W ev tv hE f hA S) (fun b' s₁ p => ?_) fun _ _ x => x)
      obtain ⟨rfl, W1, t1, S1, q1⟩ := p
      cases b' <;> exact wpAny_pure ⟨rfl, W1, t1, S1, q1⟩
    | @cons e2 ce2 es ces he2 hes =>
      simp only [evalAnd] at ev
      split at ev
      · rename_i x H1 e1
        split at ev
        · rename_i tr
          refine wpAny_bind (wpAny_mono (he.test env ρ H x H1 true A s W e1 tr hE f hA S) (fun b' s₁ p => ?_) fun _ _ x => x)
          obtain ⟨rfl, W1, t1, S1, q1⟩ := p
          exact wpAny_mono (ih ev tv (f.move t1) S1) (fun _ _ p => p.trans t1 q1) fun _ _ x => x
        · rename_i tr
          cases ev
          rw [tr] at tv; cases tv
          refine wpAny_bind (wpAny_mono (he.test env ρ H v H' false A s W e1 tr hE f hA S) (fun b' s₁ p => ?_) fun _ _ x => x)
          obtain ⟨rfl, W1, t1, S1, q1⟩ := p
          exact wpAny_pure ⟨rfl, W1, t1, S1, q1⟩
        · cases ev
      · cases ev
theorem sim_allOr {es : List Expr} {ces : List E} (h : SimEs X c k ns sc es ces) (hE : EnvOk X sc env) (hA : AOk k A) {b : Bool} : ∀ {W : Wd} {s : Shared} {H : Hp}, evalOr c ces ρ H = some (v, H') → truthyV H' v = some b → FR W env ns sc ρ s.heap → SR X.B W H s.heap →
    wpAny X.M A (allTrue .Or es env) (PB X W s H' b) NoE s := by
  induction h with
  | nil => intro W s H ev; simp only [evalOr, reduceCtorEq] at ev
  | @cons e ce es ces he hes ih =>
    intro W s H ev tv f S
    rw [arm_allTrue_cons]
    cases hes with
    | nil =>
      simp only [evalOr] at ev
      refine wpAny_bind (wpAny_mono (he.test env ρ H v H' b A s W ev tv hE f hA S) (fun b' s₁ p => ?_) fun _ _ x => x)
      obtain ⟨rfl, W1, t1, S1, q1⟩ := p
      cases b' <;> exact wpAny_pure ⟨rfl, W1, t1, S1, q1⟩
    | @cons e2 ce2 es ces he2 hes =>
      simp only [evalOr] at ev
      split at ev
      · rename_i x H1 e1
        split at ev
        · rename_i tr
          cases ev
          rw [tr] at tv; cases tv
          refine wpAny_bind (wpAny_mono (he.test env ρ H v H' true A s W e1 tr hE f hA S) (fun b' s₁ p => ?_) fun _ _ x => x)
          obtain ⟨rfl, W1, t1, S1, q1⟩ := p
          exact wpAny_pure ⟨rfl, W1, t1, S1, q1⟩
        · rename_i tr
          refine wpAny_bind (wpAny_mono (he.test env ρ H x H1 false A s W e1 tr hE f hA S) (fun b' s₁ p => ?_) fun _ _ x => x)
          obtain ⟨rfl, W1, t1, S1, q1⟩ := p
          exact wpAny_mono (ih ev tv (f.move t1) S1) (fun _ _ p => p.trans t1 q1) fun _ _ x => x
        · cases ev
      · cases ev
theorem sim_And {es : List Expr} {ces : List E} (h : SimEs X c k ns sc es ces) {pos : Pos} : SimE X c k ns sc (.BoolOp .And es pos) (.and ces) :=
  ⟨fun env ρ H v H' A s W ev hE f hA S => by simp only [evalE] at ev; rw [arm_eval_BoolOp]; exact sim_and h hE hA ev f S,
   fun env ρ H v H' b A s W ev tv hE f hA S => by simp only [evalE] at ev; rw [arm_isTrue_BoolOp]; exact sim_allAnd h hE hA ev tv f S, rfl⟩
theorem sim_Or {es : List Expr} {ces : List E} (h : SimEs X c k ns sc es ces) {pos : Pos} : SimE X c k ns sc (.BoolOp .Or es pos) (.or ces) :=
  ⟨fun env ρ H v H' A s W ev hE f hA S => by simp only [evalE] at ev; rw [arm_eval_BoolOp]; exact sim_or h hE hA ev f S,
   fun env ρ H v H' b A s W ev tv hE f hA S => by simp only [evalE] at ev; rw [arm_isTrue_BoolOp]; exact sim_allOr h hE hA ev tv f S, rfl⟩

theorem lastMarks_plain {es : List Expr} {ces : List E} (h : SimEs X c k ns sc es ces) : ∀ ops, lastMarks ops es = false := by
  induction h with
  | nil => intro ops; cases ops with | nil => rfl | cons o ops => cases ops <;> rfl
  | @cons e ce es ces he hes ih =>
    intro ops
    have hp := he.plain
    cases ops with
    | nil => rfl
    | cons o ops =>
      cases ops with
      | nil =>
        cases hes with
        | nil => cases e <;> first | rfl | (simp only [plainE, Bool.false_eq_true] at hp)
        | cons _ _ => exact ih []
      | cons o2 ops => exact ih (o2 :: ops)

theorem sim_chain {es : List Expr} {ces : List E} (h : SimEs X c k ns sc es ces) (hE : EnvOk X sc env) (hA : AOk k A) {pos : Pos} {b : Bool} : ∀ {ops : List CmpOp} {W : Wd} {s : Shared} {H : Hp} {x : V} {u : Value}, evalCmp c x ops ces ρ H = some (b, H') → RV W x u → FR W env ns sc ρ s.heap → SR X.B W H s.heap →
    wpAny X.M A (compareChain pos u ops (evalEach es env)) (PV X W s H' (.bool b)) NoE s ∧ wpAny X.M A (testChain pos u ops (evalEach es env)) (PB X W s H' b) NoE s := by
  induction h with
  | nil => intro ops W s H x u ev; cases ops with | nil => simp only [evalCmp, reduceCtorEq] at ev | cons o ops => cases ops <;> simp only [evalCmp, reduceCtorEq] at ev
  | @cons e ce es ces he hes ih =>
    intro ops W s H x u ev rx f S
    cases ops with
    | nil => simp only [evalCmp, reduceCtorEq] at ev
    | cons op ops =>
      have last : ∀ {y : V} {H1 : Hp}, evalE c ce ρ H = some (y, H1) → cmpV H1 op x y = some b → H1 = H' → ops = [] → es = [] →
          wpAny X.M A (compareChain pos u (op :: ops) (evalEach (e :: es) env)) (PV X W s H' (.bool b)) NoE s ∧ wpAny X.M A (testChain pos u (op :: ops) (evalEach (e :: es) env)) (PB X W s H' b) NoE s := by
        rintro y H1 e1 cv rfl rfl rfl
        constructor
        · show wpAny X.M A (do let rv ← holding [u] (eval e env); standAt pos; operate [u, rv] (compareOp op u rv)) _ _ s
          refine wpAny_bind (wpAny_holding (wpAny_mono (he.val env ρ H y H1 A s W e1 hE f hA S) (fun w s₁ p => ?_) fun _ _ x => x))
          obtain ⟨W1, t1, S1, r1, q1⟩ := p
          exact wpAny_bind (wpAny_standAt (wpAny_operating (sim_cmpV hA S1 cv (rx.mono t1.le) r1 (PV.trans t1 q1 (PV.here' S1 (by simp only [RV]))))))
        · show wpAny X.M A (do let rv ← holding [u] (eval e env); standAt pos; let c ← operate [u, rv] (compareOp op u rv); holding [c] (truthy c)) _ _ s
          refine wpAny_bind (wpAny_holding (wpAny_mono (he.val env ρ H y H1 A s W e1 hE f hA S) (fun w s₁ p => ?_) fun _ _ x => x))
          obtain ⟨W1, t1, S1, r1, q1⟩ := p
          exact wpAny_bind (wpAny_standAt (wpAny_bind (wpAny_operating (sim_cmpV hA S1 cv (rx.mono t1.le) r1 (wpAny_holding (wpAny_truthy_bool (PB.trans t1 q1 (PB.here' S1))))))))
      cases ops with
      | nil =>
        cases hes with
        | nil =>
          simp only [evalCmp] at ev
          split at ev
          · rename_i y H1 e1
            rw [Option.map_eq_some_iff] at ev
            obtain ⟨b', e2, e3⟩ := ev
            cases e3
            exact last e1 e2 rfl rfl rfl
          · cases ev
        | cons he2 hes2 =>
          simp only [evalCmp] at ev
          split at ev
          · rename_i y H1 e1
            split at ev
            · simp only [reduceCtorEq] at ev
            · rename_i cv
              cases ev
              constructor
              · show wpAny X.M A (do let rv ← holding [u] (eval e env); standAt pos; let c ← holding [u, rv] (compareOp op u rv); release [u, rv] [c]; if ← holding [c, rv] (truthy c) then compareChain pos rv [] _ else pure c) _ _ s
                refine wpAny_bind (wpAny_holding (wpAny_mono (he.val env ρ H _ _ A s W e1 hE f hA S) (fun w s₁ p => ?_) fun _ _ x => x))
                obtain ⟨W1, t1, S1, r1, q1⟩ := p
                refine wpAny_bind (wpAny_standAt (wpAny_bind (wpAny_holding (sim_cmpV hA S1 cv (rx.mono t1.le) r1 (wpAny_bind (PyProof.Rows.wpAny_release' (wpAny_bind (wpAny_holding (wpAny_truthy_bool ?_)))))))))
                exact wpAny_pure (PV.trans t1 q1 (PV.here' S1 (by simp only [RV])))
              · show wpAny X.M A (do let rv ← holding [u] (eval e env); standAt pos; let c ← holding [u, rv] (compareOp op u rv); release [u, rv] [c]; if ← holding [c, rv] (truthy c) then testChain pos rv [] _ else pure false) _ _ s
                refine wpAny_bind (wpAny_holding (wpAny_mono (he.val env ρ H _ _ A s W e1 hE f hA S) (fun w s₁ p => ?_) fun _ _ x => x))
                obtain ⟨W1, t1, S1, r1, q1⟩ := p
                refine wpAny_bind (wpAny_standAt (wpAny_bind (wpAny_holding (sim_cmpV hA S1 cv (rx.mono t1.le) r1 (wpAny_bind (PyProof.Rows.wpAny_release' (wpAny_bind (wpAny_holding (wpAny_truthy_bool ?_)))))))))
                exact wpAny_pure (PB.trans t1 q1 (PB.here' S1))
            · cases ev
          · cases ev
      | cons op2 ops =>
        simp only [evalCmp] at ev
        split at ev
        · rename_i y H1 e1
          constructor
          · show wpAny X.M A (do let rv ← holding [u] (eval e env); standAt pos; let c ← holding [u, rv] (compareOp op u rv); release [u, rv] [c]; if ← holding [c, rv] (truthy c) then compareChain pos rv (op2 :: ops) (evalEach es env) else pure c) _ _ s
            refine wpAny_bind (wpAny_holding (wpAny_mono (he.val env ρ H _ _ A s W e1 hE f hA S) (fun w s₁ p => ?_) fun _ _ x => x))
            obtain ⟨W1, t1, S1, r1, q1⟩ := p
            split at ev
            · rename_i cv
              refine wpAny_bind (wpAny_standAt (wpAny_bind (wpAny_holding (sim_cmpV hA S1 cv (rx.mono t1.le) r1 (wpAny_bind (PyProof.Rows.wpAny_release' (wpAny_bind (wpAny_holding (wpAny_truthy_bool ?_)))))))))
              exact wpAny_mono (ih ev r1 (f.move t1) S1).1 (fun _ _ p => p.trans t1 q1) fun _ _ x => x
            · rename_i cv
              cases ev
              refine wpAny_bind (wpAny_standAt (wpAny_bind (wpAny_holding (sim_cmpV hA S1 cv (rx.mono t1.le) r1 (wpAny_bind (PyProof.Rows.wpAny_release' (wpAny_bind (wpAny_holding (wpAny_truthy_bool ?_)))))))))
              exact wpAny_pure (PV.trans t1 q1 (PV.here' S1 (by simp only [RV])))
            · cases ev
          · show wpAny X.M A (do let rv ← holding [u] (eval e env); standAt pos; let c ← holding [u, rv] (compareOp op u rv); release [u, rv] [c]; if ← holding [c, rv] (truthy c) then testChain pos rv (op2 :: ops) (evalEach es env) else pure false) _ _ s
            refine wpAny_bind (wpAny_holding (wpAny_mono (he.val env ρ H _ _ A s W e1 hE f hA S) (fun w s₁ p => ?_) fun _ _ x => x))
            obtain ⟨W1, t1, S1, r1, q1⟩ := p
            split at ev
            · rename_i cv
              refine wpAny_bind (wpAny_standAt (wpAny_bind (wpAny_holding (sim_cmpV hA S1 cv (rx.mono t1.le) r1 (wpAny_bind (PyProof.Rows.wpAny_release' (wpAny_bind (wpAny_holding (wpAny_truthy_bool ?_)))))))))
              exact wpAny_mono (ih ev r1 (f.move t1) S1).2 (fun _ _ p => p.trans t1 q1) fun _ _ x => x
            · rename_i cv
              cases ev
              refine wpAny_bind (wpAny_standAt (wpAny_bind (wpAny_holding (sim_cmpV hA S1 cv (rx.mono t1.le) r1 (wpAny_bind (PyProof.Rows.wpAny_release' (wpAny_bind (wpAny_holding (wpAny_truthy_bool ?_)))))))))
              exact wpAny_pure (PB.trans t1 q1 (PB.here' S1))
            · cases ev
        · cases ev

theorem sim_Compare {a : Expr} {ca : E} {ops : List CmpOp} {es : List Expr} {ces : List E} (ha : SimV X c k ns sc a ca) (h : SimEs X c k ns sc es ces) {pos : Pos} : SimE X c k ns sc (.Compare a ops es pos) (.cmp ca ops ces) := by
  refine ⟨fun env ρ H v H' A s W ev hE f hA S => ?_, fun env ρ H v H' b A s W ev tv hE f hA S => ?_, rfl⟩
  · simp only [evalE] at ev
    split at ev
    · rename_i x H1 e1
      rw [Option.map_eq_some_iff] at ev
      obtain ⟨⟨b, H2⟩, e2, e3⟩ := ev
      cases e3
      rw [arm_eval_Compare, PyProof.Rows.markedEach_of_false _ _ _ (lastMarks_plain h ops)]
      refine wpAny_bind (wpAny_mono (ha env ρ H x H1 A s W e1 hE f hA S) (fun u s₁ p => ?_) fun _ _ x => x)
      obtain ⟨W1, t1, S1, r1, q1⟩ := p
      exact wpAny_mono (sim_chain h hE hA e2 r1 (f.move t1) S1).1 (fun _ _ p => p.trans t1 q1) fun _ _ x => x
    · cases ev
  · simp only [evalE] at ev
    split at ev
    · rename_i x H1 e1
      rw [Option.map_eq_some_iff] at ev
      obtain ⟨⟨b', H2⟩, e2, e3⟩ := ev
      cases e3
      simp only [truthyV, Option.some.injEq] at tv
      subst tv
      rw [arm_isTrue_Compare, PyProof.Rows.markedEach_of_false _ _ _ (lastMarks_plain h ops)]
      refine wpAny_bind (wpAny_mono (ha env ρ H x H1 A s W e1 hE f hA S) (fun u s₁ p => ?_) fun _ _ x => x)
      obtain ⟨W1, t1, S1, r1, q1⟩ := p
      exact wpAny_mono (sim_chain h hE hA e2 r1 (f.move t1) S1).2 (fun _ _ p => p.trans t1 q1) fun _ _ x => x
    · cases ev
end
end Mine
end

section
set_option autoImplicit false
namespace Mine
open PySem

section
variable {X : Cx} {G : Glob} {c : Ctx} {k : Nat} {ns : List Str} {sc : Scope} {W W' : Wd} {s s' : Shared} {H H' : Hp} {ρ : Loc} {v : V} {w : Value} {A : Around} {env : Env}

/-- a call of one of the text's own defs -/
theorem own_call (hB : BaseOk X) (hO : OS X G c k) {f : Str} {n : Nat} (hf : G.fn.lookup f = some n) (hg : isGlob sc f = true) {es : List Expr} {ces : List E} (h : SimEs X c k ns sc es ces) {p pos : Pos} {vs : List V} {H1 : Hp} {fr : Bool}
    (e1 : evalEs c ces ρ H = some (vs, H1)) (e2 : c.F n vs H1 = some (v, fr, H')) (hE : EnvOk X sc env) (fr' : FR W env ns sc ρ s.heap) (hA : AOk k A) (S : SR X.B W H s.heap) {Q : Value → Shared → Prop}
    (hQ : ∀ w s', (fr = true → ∀ xs, v = .lst xs → PL X W s H' (.list xs) w s') → PV X W s H' v w s' → Q w s') :
    wpAny X.M A (eval (.Call (.Name f p) es [] pos) env) Q NoE s := by
  obtain ⟨fa, fo, fd, g1, g2, g3, g4⟩ := hO n vs H1 v fr H' e2 f hf
  refine wpAny_Call_Name_kw (glob_name hB hE S hg g1 ?_)
  show wpAny X.M A (callWith pos (.ref fa) [] (backTo pos (starEach es env)) []) _ _ s
  refine Calls.callWith_function (fd := fd) (o := fo) (sim_args h hE hA pos e1 fr' S fun ws s₁ p => ?_)
  obtain ⟨W1, t1, S1, r1, q1⟩ := p
  refine ⟨⟨S1.base _ _ g2, g3⟩, wpAny_call (codeAny_mono (g4 A s₁ W1 ws hA S1 r1) fun r s₂ hr => ?_)⟩
  obtain ⟨w, rfl, h1, h2⟩ := hr
  exact hQ w s₂ (fun a xs b => (h1 a xs b).trans t1 q1) (h2.trans t1 q1)

theorem sim_call (hB : BaseOk X) (hO : OS X G c k) {f : Str} {n : Nat} (hf : G.fn.lookup f = some n) (hg : isGlob sc f = true) {es : List Expr} {ces : List E} (h : SimEs X c k ns sc es ces) {p pos : Pos} :
    SimV X c k ns sc (.Call (.Name f p) es [] pos) (.call n ces) := by
  intro env ρ H v H' A s W ev hE fr hA S
  simp only [evalE] at ev
  split at ev
  · rename_i vs H1 e1
    split at ev
    · rename_i v' b H2 e2
      simp only [Option.some.injEq, Prod.mk.injEq] at ev
      obtain ⟨rfl, rfl⟩ := ev
      exact own_call hB hO hf hg h e1 e2 hE fr hA S fun w s' _ p => p
    · cases ev
  · cases ev
theorem simL_call (hB : BaseOk X) (hO : OS X G c k) {f : Str} {n : Nat} (hf : G.fn.lookup f = some n) (hg : isGlob sc f = true) {es : List Expr} {ces : List E} (h : SimEs X c k ns sc es ces) {p pos : Pos} :
    SimL X c k ns sc (.Call (.Name f p) es [] pos) (.call n ces) := by
  intro env ρ H o H' A s W ev hE fr hA S
  simp only [evalL] at ev
  split at ev
  · rename_i vs H1 e1
    split at ev
    · rename_i xs H2 e2
      simp only [Option.some.injEq, Prod.mk.injEq] at ev
      obtain ⟨rfl, rfl⟩ := ev
      exact own_call hB hO hf hg h e1 e2 hE fr hA S fun w s' p _ => p rfl xs rfl
    · cases ev
  · cases ev

/-- a call of a built-in function -/
theorem bi_call (hB : BaseOk X) {f : Str} {id : String} (hv : X.gv f = some (.builtin id)) (hg : isGlob sc f = true) {es : List Expr} {ces : List E} (h : SimEs X c k ns sc es ces) {p pos : Pos} {vs : List V}
    (e1 : evalEs c ces ρ H = some (vs, H')) (hE : EnvOk X sc env) (fr' : FR W env ns sc ρ s.heap) (hA : AOk k A) (S : SR X.B W H s.heap) {Q : Value → Shared → Prop}
    (hQ : ∀ ws s' W', Tr W W' s.heap s'.heap → SR X.B W' H' s'.heap → RVs W' vs ws → Rest s s' → wpAny X.M A (call (.builtin id) ws) Q NoE s') :
    wpAny X.M A (eval (.Call (.Name f p) es [] pos) env) Q NoE s := by
  refine wpAny_Call_Name_kw (glob_name hB hE S hg hv ?_)
  show wpAny X.M A (callWith pos (.builtin id) [] (backTo pos (starEach es env)) []) _ _ s
  refine Calls.callWith_builtin (noStars pos h env) (sim_args h hE hA pos e1 fr' S fun ws s₁ p => ?_)
  obtain ⟨W1, t1, S1, r1, q1⟩ := p
  exact hQ ws s₁ W1 t1 S1 r1 q1
/-- a call of a built-in class -/
theorem ty_call (hB : BaseOk X) {f : Str} {id : String} (hv : X.gv f = some (.type id)) (hg : isGlob sc f = true) {es : List Expr} {ces : List E} (h : SimEs X c k ns sc es ces) {p pos : Pos} {vs : List V}
    (e1 : evalEs c ces ρ H = some (vs, H')) (hE : EnvOk X sc env) (fr' : FR W env ns sc ρ s.heap) (hA : AOk k A) (S : SR X.B W H s.heap) {Q : Value → Shared → Prop}
    (hQ : ∀ ws s' W', Tr W W' s.heap s'.heap → SR X.B W' H' s'.heap → RVs W' vs ws → Rest s s' → wpAny X.M A (call (.type id) ws) Q NoE s') :
    wpAny X.M A (eval (.Call (.Name f p) es [] pos) env) Q NoE s := by
  refine wpAny_Call_Name_kw (glob_name hB hE S hg hv ?_)
  show wpAny X.M A (callWith pos (.type id) [] (backTo pos (starEach es env)) []) _ _ s
  refine PyProof.Rows.callWith_type (noStars pos h env) (sim_args h hE hA pos e1 fr' S fun ws s₁ p => ?_)
  obtain ⟨W1, t1, S1, r1, q1⟩ := p
  exact hQ ws s₁ W1 t1 S1 r1 q1

theorem RVs.one {x : V} {ws : List Value} (r : RVs W [x] ws) : ∃ u, ws = [u] ∧ RV W x u := by
  cases ws with
  | nil => simp only [RVs] at r
  | cons u us => cases us with
    | nil => simp only [RVs] at r; exact ⟨u, rfl, r.1⟩
    | cons _ _ => simp only [RVs] at r; exact r.2.elim
theorem RVs.two {x y : V} {ws : List Value} (r : RVs W [x, y] ws) : ∃ u t, ws = [u, t] ∧ RV W x u ∧ RV W y t := by
  cases ws with
  | nil => simp only [RVs] at r
  | cons u us => simp only [RVs] at r; obtain ⟨t, rfl, q⟩ := RVs.one r.2; exact ⟨u, t, rfl, r.1, q⟩

theorem RV.int {i : Int} {t : Tok} : RV W (.int i) (.int i t) := by simp only [RV]; exact ⟨_, rfl⟩
theorem RV.bool {b : Bool} : RV W (.bool b) (.bool b) := by simp only [RV]
theorem RV.str {x : Str} {t : Tok} : RV W (.str x) (.str x t) := by simp only [RV]; exact ⟨_, rfl⟩
theorem RV.none : RV W .none .none := by simp only [RV]

theorem prim_len (S : SR X.B W H s.heap) {vs : List V} {ws : List Value} (r : RVs W vs ws) (e : lenV H vs = some v) : wpAny X.M A (call (.builtin "len") ws) (PV X W s H v) NoE s := by
  unfold lenV at e
  split at e
  · rename_i str
    split at e
    · rename_i hl
      cases e
      obtain ⟨u, rfl, q⟩ := r.one
      simp only [RV] at q
      obtain ⟨t, rfl⟩ := q
      unfold lid at hl
      exact P.len_str (by omega) (PV.here S RV.int)
    · cases e
  · rename_i x hx
    split at e
    · rename_i xs he
      split at e
      · rename_i hl
        cases e
        obtain ⟨u, rfl, q⟩ := r.one
        obtain ⟨a, us, n, cl, rfl, g, q, hc⟩ := V.items_obj S he q
        have hn : xs.length = us.size := q.length.trans (Array.length_toList ..)
        unfold lid at hl
        rw [hn]
        rcases hc with ⟨_, rfl⟩ | ⟨_, rfl⟩
        · exact PyProof.Rows.len_tuple ⟨_, g, rfl, n, rfl⟩ (by omega) (PV.here S RV.int)
        · exact PyProof.Rows.len_list ⟨_, g, rfl, n, rfl⟩ (by omega) (PV.here S RV.int)
      · cases e
    · cases e
  · cases e

theorem strs_are : ∀ {xs : List V} {ss : List Str} {us : List Value}, strsOf xs = some ss → RVs W xs us → PyProof.Rows.StrsAre us ss
  | [], _, [], e, _ => by simp only [strsOf, Option.some.injEq] at e; subst e; exact .nil
  | x :: xs, ss, u :: us, e, r => by
    simp only [RVs] at r
    cases x <;> simp only [strsOf, reduceCtorEq] at e
    rw [Option.map_eq_some_iff] at e
    obtain ⟨ss', e1, rfl⟩ := e
    obtain ⟨r1, r2⟩ := r
    simp only [RV] at r1
    obtain ⟨t, rfl⟩ := r1
    exact .cons _ t (strs_are e1 r2)
  | [], _, _ :: _, _, r => by simp only [RVs] at r
  | _ :: _, _, [], _, r => by simp only [RVs] at r

theorem notTup {x : V} (h : ∀ ys, x = .tup ys → False) : ¬ ∃ ys, x = .tup ys := fun ⟨ys, e⟩ => h ys e

theorem prim_join (S : SR X.B W H s.heap) {vs : List V} {ws : List Value} {t : Tok} (r : RVs W vs ws) (e : joinV H vs = some v) : ∃ u, ws = [u] ∧ wpAny X.M A (call (.builtin "str.join") [.str (Str.ofString "") t, u]) (PV X W s H v) NoE s := by
  unfold joinV at e
  split at e
  · cases e
  · rename_i x hx
    split at e
    · rename_i xs he
      split at e
      · rename_i ss hs
        split at e
        · rename_i hl
          cases e
          obtain ⟨u, rfl, q⟩ := r.one
          obtain ⟨a, us, n, cl, rfl, g, q, hc⟩ := V.items_obj S he q
          rcases hc with ⟨h, _⟩ | ⟨_, rfl⟩
          · exact (notTup hx h).elim
          · refine ⟨_, rfl, PyProof.Rows.join_list (ys := ss) ⟨_, g, rfl, n, rfl⟩ (strs_are hs q) ?_ fun t' k => ?_⟩
            · have : (Str.ofString "").length = 0 := by decide
              unfold lid at hl
              rw [this]; omega
            · have e : Txt.join (Str.ofString "") ss = Str.join (Str.ofString "") ss := StrLaws.glued_eq_join _ _
              rw [e]; exact PV.here S RV.str
        · cases e
      · cases e
    · cases e
  · cases e

theorem prim_intOf (S : SR X.B W H s.heap) {vs : List V} {ws : List Value} (r : RVs W vs ws) (e : intOfV vs = some v) : wpAny X.M A (call (.type "int") ws) (PV X W s H v) NoE s := by
  unfold intOfV at e
  split at e
  · cases e
    obtain ⟨u, rfl, q⟩ := r.one
    simp only [RV] at q; subst q
    exact call_int_bool (PV.here S RV.int)
  · cases e
theorem prim_min (hA : AOk k A) (S : SR X.B W H s.heap) {vs : List V} {ws : List Value} (r : RVs W vs ws) (e : minV vs = some v) : wpAny X.M A (call (.builtin "min") ws) (PV X W s H v) NoE s := by
  unfold minV at e
  split at e
  · rename_i a b
    cases e
    obtain ⟨u, t, rfl, q1, q2⟩ := r.two
    simp only [RV] at q1 q2
    obtain ⟨t1, rfl⟩ := q1; obtain ⟨t2, rfl⟩ := q2
    refine min_two_ints hA.handled fun h' tk hk => ⟨W, Tr.grow hk, S.grow hk, ?_, ⟨rfl, rfl, rfl⟩⟩
    split <;> exact RV.int
  · cases e
theorem prim_tuple (S : SR X.B W H s.heap) {vs : List V} {ws : List Value} (r : RVs W vs ws) (e : tupleV H vs = some v) : wpAny X.M A (call (.type "tuple") ws) (PV X W s H v) NoE s := by
  unfold tupleV at e
  split at e
  · cases e
  · rename_i x hx
    split at e
    · rename_i xs he
      split at e
      · rename_i hl
        cases e
        obtain ⟨u, rfl, q⟩ := r.one
        obtain ⟨a, us, n, cl, rfl, g, q, hc⟩ := V.items_obj S he q
        rcases hc with ⟨h, _⟩ | ⟨_, rfl⟩
        · exact (notTup hx h).elim
        · have hn : xs.length = us.size := q.length.trans (Array.length_toList ..)
          refine call_tuple_list ⟨_, g, rfl, n, rfl⟩ (fun h' hk => ?_) (by unfold lid at hl; unfold sizeLine; omega)
          have := PV.tuple (X := X) (s := { s with heap := h' }) (n := 0) (S.grow hk) q
          rw [Array.toArray_toList] at this
          exact PV.trans (s' := { s with heap := h' }) (Tr.grow hk) ⟨rfl, rfl, rfl⟩ this
      · cases e
    · cases e
  · cases e

theorem bools_at : ∀ {xs : List V} {bs : List Bool} {us : List Value}, boolsOf xs = some bs → RVs W xs us → bs.length = us.length ∧ ∀ (i : Nat) (u : Value), us[i]? = some u → u = .bool (bs.getD i false)
  | [], _, [], e, _ => by simp only [boolsOf, Option.some.injEq] at e; subst e; exact ⟨rfl, fun i u h => by simp at h⟩
  | x :: xs, bs, u :: us, e, r => by
    simp only [RVs] at r
    cases x <;> simp only [boolsOf, reduceCtorEq] at e
    rw [Option.map_eq_some_iff] at e
    obtain ⟨bs', e1, rfl⟩ := e
    obtain ⟨r1, r2⟩ := r
    simp only [RV] at r1
    subst r1
    obtain ⟨h1, h2⟩ := bools_at e1 r2
    refine ⟨by simp [h1], fun i u h => ?_⟩
    cases i with
    | zero => simp only [List.getElem?_cons_zero, Option.some.injEq] at h; rw [← h]; rfl
    | succ i => simp only [List.getElem?_cons_succ] at h; rw [h2 i u h]; rfl
  | [], _, _ :: _, _, r => by simp only [RVs] at r
  | _ :: _, _, [], _, r => by simp only [RVs] at r

theorem range_all (bs : List Bool) : (List.range bs.length).all (fun i => bs.getD i false) = bs.all id := by
  induction bs with
  | nil => rfl
  | cons b bs ih => rw [List.length_cons, List.range_succ_eq_map, List.all_cons, List.all_map, List.all_cons]; simp only [Function.comp_def]; rw [← ih]; rfl

theorem prim_all (hA : AOk k A) (S : SR X.B W H s.heap) {vs : List V} {ws : List Value} (r : RVs W vs ws) (e : allV H vs = some v) : wpAny X.M A (call (.builtin "all") ws) (PV X W s H v) NoE s := by
  unfold allV at e
  split at e
  · rename_i x
    split at e
    · rename_i xs he
      rw [Option.map_eq_some_iff] at e
      obtain ⟨bs, hb, e2⟩ := e
      cases e2
      obtain ⟨u, rfl, q⟩ := r.one
      obtain ⟨a, us, n, cl, rfl, g, q, hc⟩ := V.items_obj S he q
      obtain ⟨hlen, hbs⟩ := bools_at hb q
      have hh : A.in1.handled = none := hA.handled
      have hne : a ≠ s.heap.objs.size := Nat.ne_of_lt (Heap.lt_size g)
      have fin : ∀ (ob : Obj) h' tk, (∀ b o, b ∉ [s.heap.objs.size] → (s.heap.push ob).get? b = some o → h'.get? b = some o) → PV X W s H (.bool (bs.all id)) (.bool ((List.range us.size).all fun i => bs.getD i false)) { s with heap := h', toks := tk } := by
        intro ob h' tk hk
        have hk' : ∀ b o, s.heap.get? b = some o → h'.get? b = some o := fun b o e => hk b o (by rw [List.mem_singleton]; exact Nat.ne_of_lt (Heap.lt_size e)) (Heap.get?_push_of_some _ e)
        refine ⟨W, Tr.grow hk', S.grow hk', ?_, ⟨rfl, rfl, rfl⟩⟩
        have hz : us.size = bs.length := by rw [hlen, Array.length_toList]
        rw [hz, range_all]; exact RV.bool
      have tr : TruthOf X.prog X.w A.in1 (fun i v => us[i]? = some v) (fun i => bs.getD i false) := by
        intro i v s Q E hP hQ
        have := hbs i v (by rw [Array.getElem?_toList]; exact hP)
        subst this
        exact wpAny_truthy_bool hQ
      refine call_all_walk ?_
      rcases hc with ⟨_, rfl⟩ | ⟨_, rfl⟩
      · have ht : s.heap.IsTuple a us := ⟨_, g, rfl, n, rfl⟩
        refine wpAny_pyIter_tuple ht ?_
        exact ⟨_, _, _, _, _, _, _, rfl, Walks.tuple hh s.heap.objs.size a hne us, ⟨⟨_, Heap.get?_push_size _ rfl, rfl, rfl⟩, ht.push _⟩, tr, fun h' tk hk => fin _ h' tk hk⟩
      · have hl : s.heap.IsList a us := ⟨_, g, rfl, n, rfl⟩
        refine wpAny_pyIter_list hl ?_
        exact ⟨_, _, _, _, _, _, _, rfl, Walks.list hh s.heap.objs.size a hne us, ⟨⟨_, Heap.get?_push_size _ rfl, rfl, rfl⟩, hl.push _⟩, tr, fun h' tk hk => fin _ h' tk hk⟩
    · cases e
  · cases e

theorem prim_isi1 (S : SR X.B W H s.heap) {x : V} {u : Value} {t : Ty} {b : Bool} (r : RV W x u) (e : isTyH H t x = some b) : wpAny X.M A (call (.builtin "isinstance") [u, .type (tyName t)]) (PV X W s H (.bool b)) NoE s := by
  have fin : ∀ tk, PV X W s H (.bool b) (.bool b) { s with toks := tk } := fun tk => PV.here S RV.bool
  have fin' : PV X W s H (.bool b) (.bool b) s := PV.here' S RV.bool
  cases x <;> simp only [isTyH, Option.some.injEq] at e
  · simp only [RV] at r; subst r; subst e
    cases t
    · exact IsiPair.NoneType_int (fin _)
    · exact IsiPair.NoneType_bool (fin _)
    · exact IsiPair.NoneType_str (fin _)
    · exact IsiPair.NoneType_tuple (fin _)
    · exact IsiPair.NoneType_list (fin _)
  · simp only [RV] at r; subst r; subst e
    cases t
    · exact IsiPair.bool_int fin'
    · exact IsiPair.bool_bool fin'
    · exact IsiPair.bool_str (fin _)
    · exact IsiPair.bool_tuple (fin _)
    · exact IsiPair.bool_list (fin _)
  · simp only [RV] at r; obtain ⟨tk, rfl⟩ := r; subst e
    cases t
    · exact IsiPair.int_int fin'
    · exact IsiPair.int_bool (fin _)
    · exact IsiPair.int_str (fin _)
    · exact IsiPair.int_tuple (fin _)
    · exact IsiPair.int_list (fin _)
  · simp only [RV] at r; obtain ⟨tk, rfl⟩ := r; subst e
    cases t
    · exact IsiPair.str_int (fin _)
    · exact IsiPair.str_bool (fin _)
    · exact IsiPair.str_str fin'
    · exact IsiPair.str_tuple (fin _)
    · exact IsiPair.str_list (fin _)
  · simp only [RV] at r; obtain ⟨a, us, n, rfl, g, _⟩ := r; subst e
    have ht : s.heap.IsTuple a us := ⟨_, S.froz _ _ g, rfl, n, rfl⟩
    cases t
    · exact IsiPair.isTuple_int ht (fun _ _ e => e) (fin _)
    · exact IsiPair.isTuple_bool ht (fun _ _ e => e) (fin _)
    · exact IsiPair.isTuple_str ht (fun _ _ e => e) (fin _)
    · exact IsiPair.isTuple_tuple ht (fun _ _ e => e) fin'
    · exact IsiPair.isTuple_list ht (fun _ _ e => e) (fin _)
  · simp only [RV] at r; obtain ⟨a, us, n, rfl, g, _⟩ := r; subst e
    have ht : s.heap.IsList a us := ⟨_, S.froz _ _ g, rfl, n, rfl⟩
    cases t
    · exact IsiPair.isList_int ht (fun _ _ e => e) (fin _)
    · exact IsiPair.isList_bool ht (fun _ _ e => e) (fin _)
    · exact IsiPair.isList_str ht (fun _ _ e => e) (fin _)
    · exact IsiPair.isList_tuple ht (fun _ _ e => e) (fin _)
    · exact IsiPair.isList_list ht (fun _ _ e => e) fin'
  · rename_i i
    simp only [RV] at r
    obtain ⟨a, rfl, g⟩ := r
    split at e
    · rename_i xs hx
      obtain ⟨us, n, g', _⟩ := S.objs i _ a hx g
      have ht : s.heap.IsList a us := ⟨_, g', rfl, n, rfl⟩
      simp only [Option.some.injEq] at e
      subst e
      cases t
      · exact IsiPair.isList_int ht (fun _ _ e => e) (fin _)
      · exact IsiPair.isList_bool ht (fun _ _ e => e) (fin _)
      · exact IsiPair.isList_str ht (fun _ _ e => e) (fin _)
      · exact IsiPair.isList_tuple ht (fun _ _ e => e) (fin _)
      · exact IsiPair.isList_list ht (fun _ _ e => e) fin'
    · cases e
end
end Mine
end

section
set_option autoImplicit false
namespace Mine
open PySem

section
variable {X : Cx} {G : Glob} {c : Ctx} {k : Nat} {ns : List Str} {sc : Scope} {W W' : Wd} {s s' : Shared} {H H' : Hp} {ρ : Loc} {v : V} {w : Value} {A : Around} {env : Env}

/-- a made list that lies at a place of the heap -/
theorem PL.at {h' : Heap} {vs : List V} {us : Array Value} {n : Nat} {a : Addr} {tk : Nat} (S : SR X.B W H s.heap) (hk : ∀ b o, s.heap.get? b = some o → h'.get? b = some o) (hn : s.heap.get? a = none) (ho : h'.get? a = some (sObj "list" us n)) (r : RVs W vs us.toList) :
    PL X W s H (.list vs) (.ref a) { s with heap := h', toks := tk } := by
  have hz : W.σ a = none := by
    cases q : W.σ a with
    | none => rfl
    | some o => rw [S.froz _ _ q] at hn; cases hn
  have hf : a ∉ W.φ := fun m => S.mem_alive m hn
  exact ⟨W, _, rfl, Tr.grow hk, S.grow hk, ⟨us, n, ho, r⟩, hz, hf, hn, ⟨rfl, rfl, rfl⟩⟩

theorem list_of_items (S : SR X.B W H s.heap) {x : V} {u : Value} {xs : List V} (r : RV W x u) (he : x.items H = some xs) (hl : xs.length ≤ lid) : wpAny X.M A (call (.type "list") [u]) (PL X W s H (.list xs)) NoE s := by
  obtain ⟨a, us, n, cl, rfl, g, q, hc⟩ := V.items_obj S he r
  have hn : xs.length = us.size := q.length.trans (Array.length_toList ..)
  have hsz : us.size ≤ sizeLine := by unfold lid at hl; unfold sizeLine; omega
  rcases hc with ⟨_, rfl⟩ | ⟨_, rfl⟩
  · exact call_list_seq a (.inr rfl) g rfl rfl (fun h' c' hk ho => PL.at S hk (get_none_size _) ho q) hsz
  · exact call_list_seq a (.inl rfl) g rfl rfl (fun h' c' hk ho => PL.at S hk (get_none_size _) ho q) hsz

theorem attributeBase_plain {o : Expr} (h : plainBase o = true) (name : Str) (env : Env) (whole : Sem Value) : attributeBase o name env whole = whole := by
  cases o <;> first | rfl | cases h

/-- a method of a built-in class's -/
theorem meth_call {o : Expr} {co : E} (ho : SimV X c k ns sc o co) {es : List Expr} {ces : List E} (h : SimEs X c k ns sc es ces) (hp : plainBase o = true) {name : Str} {apos pos : Pos} (hl : (apos.endLine == pos.line) = true) {T id : String}
    (pa : PlainAttrs T) (slot : Slot T name id) (hty : typeOf (.builtin id) = pure (.type "method_descriptor")) (hlen : es.length < 30) {x : V} {vs : List V} {H1 H2 : Hp}
    (e1 : evalE c co ρ H = some (x, H1)) (e2 : evalEs c ces ρ H1 = some (vs, H2)) (hE : EnvOk X sc env) (f : FR W env ns sc ρ s.heap) (hA : AOk k A) (S : SR X.B W H s.heap) {Q : Value → Shared → Prop}
    (hT : ∀ (u : Value) (s' : Shared) (W' : Wd), SR X.B W' H1 s'.heap → RV W' x u → s'.TypeIs u T ∧ (∀ a, u = .ref a → ∃ ob, s'.heap.get? a = some ob ∧ ob.dict = none))
    (hQ : ∀ u ws s' W', Tr W W' s.heap s'.heap → SR X.B W' H2 s'.heap → RV W' x u → RVs W' vs ws → Rest s s' → wpAny X.M A (call (.builtin id) (u :: ws)) Q NoE s') :
    wpAny X.M A (eval (.Call (.Attribute o name apos) es [] pos) env) Q NoE s := by
  have hst := noStars pos h env
  refine wpAny_Call_method (T := T) (id := id) (attributeBase_plain hp name env _) ?_ hl pa slot hty (wpAny_mono (ho env ρ H x H1 A s W e1 hE f hA S) (fun u s₁ p => ?_) fun _ _ x => x)
  · rw [Bool.and_eq_true, Bool.and_eq_true]
    refine ⟨⟨?_, rfl⟩, ?_⟩
    · rw [starEach_plain h, backTo_plain, List.all_map]; simp [Function.comp_def]
    · rw [decide_eq_true_eq]; simpa using hlen
  · obtain ⟨W1, t1, S1, r1, q1⟩ := p
    obtain ⟨h1, h2⟩ := hT u s₁ W1 S1 r1
    refine ⟨h1, h2, Calls.callWith_builtin hst (sim_args h hE hA pos e2 (f.move t1) S1 fun ws s₂ p => ?_)⟩
    obtain ⟨W2, t2, S2, r2, q2⟩ := p
    exact hQ u ws s₂ W2 (t1.trans t2) S2 (r1.mono t2.le) r2 (q1.trans q2)

theorem list_box_type (S : SR X.B W H s.heap) {i : Nat} {xs : List V} {u : Value} (hx : H[i]? = some (.list xs)) (r : RV W (.ref i) u) : s.TypeIs u "list" ∧ (∀ a, u = .ref a → ∃ ob, s.heap.get? a = some ob ∧ ob.dict = none) := by
  simp only [RV] at r
  obtain ⟨a, rfl, g⟩ := r
  obtain ⟨us, n, g', _⟩ := S.objs i _ a hx g
  exact ⟨⟨_, g', rfl⟩, fun b e => by cases e; exact ⟨_, g', rfl⟩⟩

/-- a box is written anew -/
theorem PV.upd {i : Nat} {a : Addr} {us : Array Value} {n : Nat} {xs : List V} {h' : Heap} {tk : Nat} (S : SR X.B W H s.heap) (g : W.φ[i]? = some a) (hs : Heap.SameBut a s.heap h') (ho : h'.get? a = some (sObj "list" us n)) (r : RVs W xs us.toList) :
    PV X W s (H.set i (.list xs)) .none .none { s with heap := h', toks := tk } :=
  ⟨W, Tr.upd (List.mem_of_getElem? g) hs.2 (by rw [ho]; simp), S.upd g hs.2 ⟨us, n, ho, r⟩, RV.none, ⟨rfl, rfl, rfl⟩⟩

theorem sim_append {o a : Expr} {co ca : E} (ho : SimV X c k ns sc o co) (ha : SimE X c k ns sc a ca) (hp : plainBase o = true) {apos pos : Pos} (hl : (apos.endLine == pos.line) = true) :
    SimV X c k ns sc (.Call (.Attribute o ("append" : Str) apos) [a] [] pos) (.eff .append [co, ca]) := by
  intro env ρ H v H' A s W ev hE f hA S
  simp only [evalE, evalEs] at ev
  split at ev
  · rename_i vs H2 e0
    split at e0
    · rename_i x H1 e1
      split at e0
      · rename_i vs' H3 e2
        have e2' : evalEs c [ca] ρ H1 = some (vs', H3) := by simp only [evalEs]; exact e2
        cases e0
        simp only [effV] at ev
        obtain ⟨y, rfl⟩ : ∃ y, vs' = [y] := by have := evalEs_length e2'; simp at this; exact List.length_eq_one_iff.mp this
        unfold appendV at ev
        split at ev
        · rename_i i v' heq
          cases heq
          split at ev
          · rename_i xs hx
            split at ev
            · rename_i hlen
              cases ev
              have key : ∀ (u : Value) (s' : Shared) (W' : Wd), SR X.B W' H1 s'.heap → RV W' (.ref i) u → s'.TypeIs u "list" ∧ (∀ a, u = .ref a → ∃ ob, s'.heap.get? a = some ob ∧ ob.dict = none) := by
                intro u s' W' S' r
                simp only [RV] at r
                obtain ⟨a', rfl, g⟩ := r
                have hi : i < H1.length := by have := (List.getElem?_eq_some_iff.mp g).1; rw [S'.len]; exact this
                have ob := S'.objs i _ a' (List.getElem?_eq_getElem hi) g
                revert ob
                cases H1[i] with
                | list ys => rintro ⟨us, n, g', _⟩; exact ⟨⟨_, g', rfl⟩, fun b e => by cases e; exact ⟨_, g', rfl⟩⟩
              refine meth_call ho (.cons ha .nil) hp hl F.plainAttrs_list slot_list_append F.type_list_append (by simp) e1 e2' hE f hA S key fun u ws s' W' t S' r1 r2 q => ?_
              obtain ⟨z, rfl, rz⟩ := r2.one
              simp only [RV] at r1
              obtain ⟨a', rfl, g⟩ := r1
              obtain ⟨us, n, g', ru⟩ := S'.objs i _ a' hx g
              have hn : xs.length = us.size := ru.length.trans (Array.length_toList ..)
              refine wpAny_list_append_plain (hl := ⟨n, g'⟩) (fun h' hpl hs => ?_) (by unfold lid at hlen; unfold sizeLine; omega)
              obtain ⟨n', hpl⟩ := hpl
              refine PV.trans t q (PV.upd S' g hs hpl ?_)
              rw [Array.toList_push]
              exact ru.snoc rz
            · cases ev
          · cases ev
        · cases ev
      · cases e0
    · cases e0
  · cases ev

theorem sim_clear {o : Expr} {co : E} (ho : SimV X c k ns sc o co) (hp : plainBase o = true) {apos pos : Pos} (hl : (apos.endLine == pos.line) = true) :
    SimV X c k ns sc (.Call (.Attribute o ("clear" : Str) apos) [] [] pos) (.eff .clear [co]) := by
  intro env ρ H v H' A s W ev hE f hA S
  simp only [evalE, evalEs] at ev
  split at ev
  · rename_i vs H2 e0
    split at e0
    · rename_i x H1 e1
      cases e0
      simp only [effV] at ev
      unfold clearV at ev
      split at ev
      · rename_i i heq
        cases heq
        split at ev
        · rename_i xs hx
          split at ev
          case isFalse => cases ev
          rename_i hlen
          cases ev
          refine meth_call ho .nil hp hl F.plainAttrs_list F.slot_list_clear F.type_list_clear (by decide) e1 rfl hE f hA S (fun u s' W' S' r => list_box_type S' hx r) fun u ws s' W' t S' r1 r2 q => ?_
          cases ws with
          | cons _ _ => simp only [RVs] at r2
          | nil =>
            simp only [RV] at r1
            obtain ⟨a', rfl, g⟩ := r1
            obtain ⟨us, n, g', ru⟩ := S'.objs i _ a' hx g
            have hn : xs.length = us.size := ru.length.trans (Array.length_toList ..)
            refine call_meets F.slot_list_clear ⟨_, g', rfl⟩ F.entry_list_clear (F.args_list_clear_1 _) (AutoSeq1.list_clear_list_0 a' us n (by unfold lid at hlen; unfold sizeLine; omega)) ⟨g', ?_⟩
            exact PV.trans t q (PV.upd S' g (Heap.SameBut.update ..) (Heap.get?_update_self _ g' rfl) (by simp only [RVs]))
        · cases ev
      · cases ev
    · cases e0
  · cases ev

theorem sim_join {st : Str} {a : Expr} {ca : E} (ha : SimE X c k ns sc a ca) (hz : st.length = 0) {kk : Nat} {cp apos pos : Pos} (hl : (apos.endLine == pos.line) = true) :
    SimV X c k ns sc (.Call (.Attribute (.Constant (.str st) kk cp) ("join" : Str) apos) [a] [] pos) (.prim .join [ca]) := by
  intro env ρ H v H' A s W ev hE f hA S
  simp only [evalE] at ev
  split at ev
  · rename_i vs H2 e0
    rw [Option.map_eq_some_iff] at ev
    obtain ⟨v', e2, e3⟩ := ev
    cases e3
    have hst : st = Str.ofString "" := by
      obtain ⟨cps⟩ := st
      have : cps = #[] := Array.eq_empty_of_size_eq_zero hz
      subst this; rfl
    subst hst
    have hc : SimV X c k ns sc (.Constant (.str (Str.ofString "")) kk cp) (.const (.str (Str.ofString ""))) := by
      intro env ρ H v H' A s W ev hE f hA S
      simp only [evalE, Option.some.injEq, Prod.mk.injEq] at ev
      obtain ⟨rfl, rfl⟩ := ev
      exact sim_const S rfl
    refine meth_call (x := .str (Str.ofString "")) hc (.cons ha .nil) rfl hl F.plainAttrs_str F.slot_str_join F.type_str_join (by simp) rfl e0 hE f hA S (fun u s' W' S' r => ?_) fun u ws s' W' t S' r1 r2 q => ?_
    · simp only [RV] at r
      obtain ⟨tk, rfl⟩ := r
      exact ⟨typeIs_str _ _ _, fun a e => by cases e⟩
    · simp only [RV] at r1
      obtain ⟨tk, rfl⟩ := r1
      simp only [primV] at e2
      obtain ⟨u, rfl, hw⟩ := prim_join (t := tk) S' r2 e2
      exact wpAny_mono hw (fun _ _ p => p.trans t q) fun _ _ x => x
  · cases ev


theorem sim_setItem (S : SR X.B W H s.heap) {z x y u : V} {zv xv yv : Value} (e : setItemV H [z, x, y] = some (u, H')) (rz : RV W z zv) (rx : RV W x xv) (ry : RV W y yv) :
    wpAny X.M A (setItem xv yv zv) (fun _ s' => PV X W s H' .none .none s') NoE s := by
  unfold setItemV at e
  split at e
  · rename_i z i kk heq
    cases heq
    split at e
    · rename_i xs hx
      split at e
      · rename_i hk
        cases e
        simp only [RV] at rx ry
        obtain ⟨a, rfl, g⟩ := rx
        obtain ⟨t, rfl⟩ := ry
        obtain ⟨us, n, g', ru⟩ := S.objs i _ a hx g
        have hn : xs.length = us.size := ru.length.trans (Array.length_toList ..)
        refine PySem.W.ki_setAt (n := n) g' hk.1 (by omega) (by omega) ?_
        refine PV.upd (n := n) S g (Heap.SameBut.update ..) ((Heap.get?_update_self _ g' rfl).trans ?_) (us := us.setIfInBounds kk.toNat zv) ?_
        · show some (Obj.mk _ _ (.seq _ (if (us.setIfInBounds kk.toNat zv).size == us.size then n else n + 1)) _) = _
          rw [Array.size_setIfInBounds, beq_self_eq_true, if_pos rfl]
        · rw [Array.toList_setIfInBounds]; exact ru.set rz
      · cases e
    · cases e
  · cases e

theorem slice_list (S : SR X.B W H s.heap) {x l h : V} {xv lv hv : Value} {ys : List V} (e : sliceV H x l h = some ys) (rx : RV W x xv) (rl : RV W l lv) (rh : RV W h hv) {sl : Addr} (hs : s.heap.IsSliceOf sl lv hv .none) :
    (∃ a, xv = .ref a ∧ s.TypeIs (.ref a) "list") ∧ wpAny X.M A (getItem xv (.ref sl)) (PL X W s H (.list ys)) NoE s := by
  unfold sliceV at e
  split at e
  · cases e
  · rename_i v hx
    split at e
    · rename_i xs he
      split at e
      · rename_i hlen
        obtain ⟨a, us, n, cl, rfl, g, q, hc⟩ := V.items_obj S he rx
        rcases hc with ⟨h', _⟩ | ⟨_, rfl⟩
        · exact (notTup hx h').elim
        · have hl : s.heap.IsList a us := ⟨_, g, rfl, n, rfl⟩
          have hn : xs.length = us.size := q.length.trans (Array.length_toList ..)
          have hsz : us.size ≤ sizeLine := by unfold lid at hlen; unfold sizeLine; omega
          refine ⟨⟨a, rfl, hl.typeIs⟩, ?_⟩
          have go : ∀ {lo hi : Option Int}, IsPart lv lo → IsPart hv hi → RVs W ys (slicePick us lo hi none).toList → wpAny X.M A (getItem (.ref a) (.ref sl)) (PL X W s H (.list ys)) NoE s := by
            intro lo hi p1 p2 r
            refine wpAny_getItem_list_slice hl hs p1 p2 .none (by simp) ?_ hsz
            have := PL.list (X := X) (s := s) (n := 0) S r
            rw [Array.toArray_toList] at this
            exact this
          split at e
          · rename_i kk
            split at e
            · rename_i h0
              cases e
              simp only [RV] at rl rh
              subst rl
              obtain ⟨t, rfl⟩ := rh
              refine go .none (.int _ t) ?_
              obtain ⟨j, rfl⟩ := Int.eq_ofNat_of_zero_le h0
              rw [slicePick_upto']
              exact q.take j
            · cases e
          · rename_i kk
            split at e
            · rename_i h0
              cases e
              simp only [RV] at rl rh
              subst rh
              obtain ⟨t, rfl⟩ := rl
              refine go (.int _ t) .none ?_
              obtain ⟨j, rfl⟩ := Int.eq_ofNat_of_zero_le h0
              rw [slicePick_from']
              exact q.drop j
            · cases e
          · rename_i j kk
            split at e
            · rename_i h0
              cases e
              simp only [RV] at rl rh
              obtain ⟨t, rfl⟩ := rl
              obtain ⟨t', rfl⟩ := rh
              refine go (.int _ t) (.int _ t') ?_
              obtain ⟨j, rfl⟩ := Int.eq_ofNat_of_zero_le h0.1
              obtain ⟨kk, rfl⟩ := Int.eq_ofNat_of_zero_le (Int.le_trans h0.1 h0.2.1)
              rw [slicePick_run _ _ _ (by omega) (by omega)]
              exact (q.drop j).take _
            · cases e
          · cases e
      · cases e
    · cases e

noncomputable def SimO (X : Cx) (c : Ctx) (k : Nat) (ns : List Str) (sc : Scope) : Option Expr → Option E → Prop
  | none, none => True
  | some e, some ce => SimV X c k ns sc e ce
  | _, _ => False
theorem sim_part {lo : Option Expr} {clo : Option E} (h : SimO X c k ns sc lo clo) {x : V} (e : evalO c clo ρ H = some (x, H')) (hE : EnvOk X sc env) (f : FR W env ns sc ρ s.heap) (hA : AOk k A) (S : SR X.B W H s.heap) :
    wpAny X.M A (evalPart lo env) (PV X W s H' x) NoE s := by
  cases lo <;> cases clo <;> simp only [SimO] at h
  · simp only [evalO, Option.some.injEq, Prod.mk.injEq] at e
    obtain ⟨rfl, rfl⟩ := e
    exact wpAny_pure (PV.here' S RV.none)
  · simp only [evalO] at e
    exact h env ρ H x H' A s W e hE f hA S

theorem sim_slice {a : Expr} {ca : E} {lo hi : Option Expr} {clo chi : Option E} (ha : SimV X c k ns sc a ca) (hlo : SimO X c k ns sc lo clo) (hhi : SimO X c k ns sc hi chi) {p pos : Pos} : SimL X c k ns sc (.Subscript a (.Slice lo hi none p) pos) (.slice ca clo chi) := by
  intro env ρ H o H' A s W ev hE f hA S
  simp only [evalL] at ev
  split at ev
  · rename_i v H1 e1
    split at ev
    · rename_i l H2 e2
      split at ev
      · rename_i h H3 e3
        rw [Option.map_eq_some_iff] at ev
        obtain ⟨ys, e4, e5⟩ := ev
        cases e5
        refine PyProof.Rows.Subscript_ (wpAny_mono (ha env ρ H v H1 A s W e1 hE f hA S) (fun xv s₁ p => ?_) fun _ _ x => x)
        obtain ⟨W1, t1, S1, r1, q1⟩ := p
        refine wpAny_Slice (wpAny_mono (sim_part hlo e2 hE (f.move t1) hA S1) (fun lv s₂ p => ?_) fun _ _ x => x)
        obtain ⟨W2, t2, S2, r2, q2⟩ := p
        refine wpAny_mono (sim_part hhi e3 hE ((f.move t1).move t2) hA S2) (fun hv s₃ p => ?_) fun _ _ x => x
        obtain ⟨W3, t3, S3, r3, q3⟩ := p
        refine wpAny_pure ?_
        have hk : ∀ b o, s₃.heap.get? b = some o → (s₃.heap.push { cls := .type "slice", data := .fields #[lv, hv, .none] }).get? b = some o := fun b o e => Heap.get?_push_of_some _ e
        have t4 : Tr W3 W3 s₃.heap (s₃.heap.push { cls := .type "slice", data := .fields #[lv, hv, .none] }) := Tr.grow hk
        obtain ⟨⟨ad, rfl, hT⟩, hw⟩ := slice_list (X := X) (A := A) (s := { s₃ with heap := s₃.heap.push { cls := .type "slice", data := .fields #[lv, hv, .none] } }) (S3.grow hk) e4 (r1.mono (t2.le.trans t3.le)) (r2.mono t3.le) r3 (Heap.IsSliceOf.new ..)
        refine PyProof.Rows.tail_any (ops := [.ref s₃.heap.objs.size, .ref ad]) hT slot_list_getitem.lookup (wpAny_mono hw (fun _ _ p => ?_) fun _ _ x => x) rfl
        exact PL.trans t1 q1 (PL.trans t2 q2 (PL.trans t3 q3 (PL.trans (s' := { s₃ with heap := _ }) t4 ⟨rfl, rfl, rfl⟩ p)))
      · cases ev
    · cases ev
  · cases ev
end
end Mine
end

section
set_option autoImplicit false
namespace Mine
open PySem

/-- as Tr, and what P says may have been changed too -/
structure TrP (P : Addr → Prop) (W W' : Wd) (h h' : Heap) : Prop where
  le : W.le W'
  keep : ∀ b o, h.get? b = some o → b ∉ W.φ → ¬ P b → h'.get? b = some o
  alive : ∀ b, h.get? b ≠ none → ¬ P b → h'.get? b ≠ none
  nf : ∀ b ∈ W'.φ, b ∈ W.φ ∨ h.get? b = none ∨ P b
  nz : ∀ b o, W'.σ b = some o → W.σ b = some o ∨ h.get? b = none ∨ P b

section
variable {P P' : Addr → Prop} {W W' W'' : Wd} {h h' h'' : Heap}
theorem TrP.refl : TrP P W W h h := ⟨.refl _, fun _ _ e _ _ => e, fun _ e _ => e, fun _ m => .inl m, fun _ _ m => .inl m⟩
theorem Tr.toP (x : Tr W W' h h') : TrP P W W' h h' := ⟨x.le, fun b o e n _ => x.keep b o e n, fun b e _ => x.alive b e, fun b m => (x.nf b m).imp_right .inl, fun b o m => (x.nz b o m).imp_right .inl⟩
theorem TrP.mono (x : TrP P W W' h h') (hp : ∀ b, P b → P' b) : TrP P' W W' h h' :=
  ⟨x.le, fun b o e n p => x.keep b o e n fun q => p (hp b q), fun b e p => x.alive b e fun q => p (hp b q), fun b m => (x.nf b m).imp_right (·.imp_right (hp b)), fun b o m => (x.nz b o m).imp_right (·.imp_right (hp b))⟩
/-- what was changed behind was not there ahead, or might be changed ahead too -/
theorem TrP.fresh {h₀ : Heap} {W₀ : Wd} (x : TrP P' W₀ W h₀ h) (y : TrP P W W' h h') (hp : ∀ b, P b → P' b ∨ h₀.get? b = none) : TrP P' W₀ W' h₀ h' where
  le := x.le.trans y.le
  keep := fun b o e nb np => y.keep b o (x.keep b o e nb np) (fun m => (x.nf b m).elim nb fun q => q.elim (fun q => by rw [q] at e; cases e) np) fun p => (hp b p).elim np fun q => by rw [q] at e; cases e
  alive := fun b e np => y.alive b (x.alive b e np) fun p => (hp b p).elim np fun q => e q
  nf := fun b m => by
    rcases y.nf b m with q | q | q
    · exact x.nf b q
    · by_cases p : P' b
      · exact .inr (.inr p)
      · exact .inr (.inl (Classical.byContradiction fun e => x.alive b e p q))
    · exact .inr ((hp b q).symm)
  nz := fun b o m => by
    rcases y.nz b o m with q | q | q
    · exact x.nz b o q
    · by_cases p : P' b
      · exact .inr (.inr p)
      · exact .inr (.inl (Classical.byContradiction fun e => x.alive b e p q))
    · exact .inr ((hp b q).symm)
theorem TrP.trans (x : TrP P W W' h h') (y : TrP P W' W'' h' h'') : TrP P W W'' h h'' := x.fresh y fun _ p => .inl p
theorem TrP.toTr (x : TrP P W W' h h') (hp : ∀ b, P b → h.get? b = none) : Tr W W' h h' :=
  ⟨x.le, fun b o e n => x.keep b o e n (fun p => by rw [hp b p] at e; cases e), fun b e => x.alive b e fun p => e (hp b p), fun b m => (x.nf b m).imp_right (·.elim id (hp b)), fun b o m => (x.nz b o m).imp_right (·.elim id (hp b))⟩
/-- what was changed was not there ahead -/
theorem Tr.fresh {h₀ : Heap} {W₀ : Wd} (x : Tr W₀ W h₀ h) (y : TrP P W W' h h') (hp : ∀ b, P b → h₀.get? b = none) : Tr W₀ W' h₀ h' :=
  ((x.toP (P := fun _ => False)).fresh y fun b p => .inr (hp b p)).toTr fun _ p => p.elim

theorem TrP.ext {a : Addr} (hp : P a) (hs : ∀ b o, b ≠ a → h.get? b = some o → h'.get? b = some o) : TrP P W W h h' where
  le := .refl _
  keep := fun b o e _ np => hs b o (fun q => np (q ▸ hp)) e
  alive := fun b e np => by
    cases q : h.get? b with
    | none => exact absurd q e
    | some o => rw [hs b o (fun r => np (r ▸ hp)) q]; simp
  nf := fun _ m => .inl m
  nz := fun _ _ m => .inl m
end

/-- free of the world: neither of the base, nor frozen, nor a box -/
noncomputable def Free (X : Cx) (W : Wd) (b : Addr) : Prop := X.B.get? b = none ∧ W.σ b = none ∧ b ∉ W.φ

theorem Free.of_none {X : Cx} {W : Wd} {H : Hp} {h : Heap} {b : Addr} (S : SR X.B W H h) (e : h.get? b = none) : Free X W b := by
  refine ⟨?_, ?_, fun m => S.mem_alive m e⟩
  · cases q : X.B.get? b with
    | none => rfl
    | some o => rw [S.base b o q] at e; cases e
  · cases q : W.σ b with
    | none => rfl
    | some o => rw [S.froz b o q] at e; cases e
theorem Free.move {X : Cx} {W W' : Wd} {h h' : Heap} {P : Addr → Prop} {b : Addr} (f : Free X W b) (t : TrP P W W' h h') (ha : h.get? b ≠ none) (np : ¬ P b) : Free X W' b := by
  refine ⟨f.1, ?_, fun m => (t.nf b m).elim f.2.2 fun q => q.elim ha np⟩
  cases q : W'.σ b with
  | none => rfl
  | some o =>
    rcases t.nz b o q with e | e | e
    · rw [f.2.1] at e; cases e
    · exact absurd e ha
    · exact absurd e np

theorem SR.free {X : Cx} {W : Wd} {H : Hp} {h h' : Heap} {P : Addr → Prop} (S : SR X.B W H h) (hp : ∀ b, P b → Free X W b) (k : ∀ b o, ¬ P b → h.get? b = some o → h'.get? b = some o) : SR X.B W H h' :=
  S.other (P := P) (fun b p => (hp b p).1) (fun b p => (hp b p).2.1) (fun b p => (hp b p).2.2) k

/-- something to go through: `St W H rest h` says that `rest` is still to come -/
structure Iter (X : Cx) (A : Around) where
  I : Addr
  own : List Addr
  G : List Nat
  tg : Expr → Prop
  St : Wd → Hp → List V → Heap → Prop
  mem : I ∈ own
  move : ∀ (W W' : Wd) (H H' : Hp) (rest : List V) (h h' : Heap), St W H rest h → W.le W' → (∀ i : Nat, i ∈ G → H'[i]? = H[i]?) → (∀ b ∈ own, ∀ o, h.get? b = some o → h'.get? b = some o) → St W' H' rest h'
  item : ∀ (target : Expr) (s : Shared) (W : Wd) (H : Hp) (x : V) (rest : List V), tg target → SR X.B W H s.heap → St W H (x :: rest) s.heap → (∀ b ∈ own, Free X W b ∧ s.heap.get? b ≠ none) →
    wpAny X.M A (pyNext (.ref I)) (fun r s₁ => ∃ w, r = some w ∧ wpAny X.M A (letOwnedTupleGo target (.ref I) w) (fun _ s' =>
      ∃ W', TrP (· ∈ own) W W' s.heap s'.heap ∧ SR X.B W' H s'.heap ∧ RV W' x w ∧ Rest s s' ∧ St W' H rest s'.heap ∧ ∀ b ∈ own, Free X W' b ∧ s'.heap.get? b ≠ none) NoE s₁) NoE s
  done : ∀ (s : Shared) (W : Wd) (H : Hp), SR X.B W H s.heap → St W H [] s.heap → (∀ b ∈ own, Free X W b ∧ s.heap.get? b ≠ none) →
    wpAny X.M A (pyNext (.ref I)) (fun r s' => r = none ∧ TrP (· ∈ own) W W s.heap s'.heap ∧ SR X.B W H s'.heap ∧ Rest s s') NoE s
  self : ∀ (s : Shared) (W : Wd) (H : Hp) (rest : List V) (Q : Value → Shared → Prop), St W H rest s.heap → Q (.ref I) s → wpAny X.M A (pyIter (.ref I)) Q NoE s

theorem letOwned_other {M : Model} {A : Around} {E : Value → Shared → Prop} {s : Shared} {target : Expr} {I : Addr} {w : Value} {o : Obj} {c : String} {Q : Unit → Shared → Prop} (ho : s.heap.get? I = some o) (hc : o.cls = .type c)
    (hn : (["enumerate", "zip", "dict_itemiterator", "dict_reverseitemiterator", "odict_iterator", "itertools.zip_longest", "itertools.pairwise"] : List String).contains c = false) (h : Q () s) :
    wpAny M A (letOwnedTupleGo target (.ref I) w) Q E s := by
  have go : wpAny M A (do
      let (.ref r, .ref a) := (Value.ref I, w) | return
      let o ← load r
      match o.cls, o.data with
      | .type n, .fields vs =>
        if ["enumerate", "zip", "dict_itemiterator", "dict_reverseitemiterator", "odict_iterator", "itertools.zip_longest", "itertools.pairwise"].contains n && vs[0]? == some (rawInt a) then
          rule "for.unpacks-the-owned-tuple"
          updateField r 0 .none
      | _, _ => pure () : Sem Unit) Q E s := by
    cases w <;> try exact wpAny_pure h
    refine wpAny_bind (wpAny_load ho ?_)
    rw [hc]
    cases o.data <;> try exact wpAny_pure h
    simp only [hn, Bool.false_and, Bool.false_eq_true, if_false]
    exact wpAny_pure h
  cases target <;> first | exact wpAny_pure h | exact go

section
variable {X : Cx} {A : Around}

/-- going through a list -/
noncomputable def Iter.list (hh : A.handled = none) (I : Addr) (src : V) : Iter X A where
  I := I
  own := [I]
  G := guardOf src
  tg := fun _ => True
  St := fun W H rest h => ∃ (k : Nat) (xs : List V) (a : Addr), h.IsListIter I a k ∧ src.items H = some xs ∧ RV W src (.ref a) ∧ rest = xs.drop k ∧ (¬ ∃ ys, src = .tup ys)
  mem := by simp
  move := by
    rintro W W' H H' rest h h' ⟨k, xs, a, ⟨o, ho, hc, hd⟩, e, r, rfl, nt⟩ le hG hk
    refine ⟨k, xs, a, ⟨o, hk I (by simp) o ho, hc, hd⟩, ?_, r.mono le, rfl, nt⟩
    cases src <;> simp only [V.items, reduceCtorEq] at e ⊢
    · exact e
    · exact e
    · rw [hG _ (by simp [guardOf])]; exact e
  item := by
    rintro target s W H x rest - S ⟨k, xs, a, hit, e, r, er, nt⟩ hf
    obtain ⟨a', us, n, c, e', g, q, hc⟩ := V.items_obj S e r
    cases e'
    rcases hc with ⟨h, _⟩ | ⟨_, rfl⟩
    · exact (nt h).elim
    have hx : xs[k]? = some x := by rw [← List.head?_drop, ← er]; rfl
    obtain ⟨w, hw, rw'⟩ := q.get hx
    rw [Array.getElem?_toList] at hw
    refine wpAny_pyNext_list_item hit ⟨_, g, rfl, n, rfl⟩ hw fun h' hit' hs => ⟨w, rfl, ?_⟩
    obtain ⟨o, ho, hcl, hd⟩ := id hit'
    refine letOwned_other ho hcl (by decide) ⟨W, TrP.ext (by simp) hs.extBut, ?_, rw', ⟨rfl, rfl, rfl⟩, ⟨k + 1, xs, a, hit', e, r, ?_, nt⟩, fun b hb => ?_⟩
    · exact S.free (P := fun b => b = I) (fun b p => p ▸ (hf I (by simp)).1) fun b o nb e => (hs.2 b nb).trans e
    · rw [← List.tail_drop, ← er]; rfl
    · rw [List.mem_singleton] at hb; subst hb; exact ⟨(hf b (by simp)).1, by rw [ho]; simp⟩
  done := by
    rintro s W H S ⟨k, xs, a, hit, e, r, er, nt⟩ hf
    obtain ⟨a', us, n, c, e', g, q, hc⟩ := V.items_obj S e r
    cases e'
    rcases hc with ⟨h, _⟩ | ⟨_, rfl⟩
    · exact (nt h).elim
    have hx : us[k]? = none := by
      have hl : xs.length = us.size := q.length.trans (Array.length_toList ..)
      have : xs.length ≤ k := List.drop_eq_nil_iff.mp er.symm
      exact Array.getElem?_eq_none (by omega)
    refine wpAny_pyNext_list_end hh hit ⟨_, g, rfl, n, rfl⟩ hx fun h' hs => ⟨rfl, ?_, ?_, ⟨rfl, rfl, rfl⟩⟩
    · exact TrP.ext (by simp) hs
    · exact S.free (P := fun b => b = I) (fun b p => p ▸ (hf I (by simp)).1) fun b o nb e => hs b o nb e
  self := by
    rintro s W H rest Q ⟨k, xs, a, hit, _⟩ hQ
    exact wpAny_pyIter_listiter hit hQ

/-- going through a tuple -/
noncomputable def Iter.tuple (hh : A.handled = none) (I : Addr) (xs : List V) : Iter X A where
  I := I
  own := [I]
  G := []
  tg := fun _ => True
  St := fun W _ rest h => ∃ (k : Nat) (a : Addr), h.IsTupleIter I a k ∧ RV W (.tup xs) (.ref a) ∧ rest = xs.drop k
  mem := by simp
  move := by
    rintro W W' H H' rest h h' ⟨k, a, ⟨o, ho, hc, hd⟩, r, rfl⟩ le _ hk
    exact ⟨k, a, ⟨o, hk I (by simp) o ho, hc, hd⟩, r.mono le, rfl⟩
  item := by
    rintro target s W H x rest - S ⟨k, a, hit, r, er⟩ hf
    obtain ⟨a', us, n, c, e', g, q, hc⟩ := V.items_obj (H := H) S rfl r
    cases e'
    rcases hc with ⟨_, rfl⟩ | ⟨h, _⟩
    case inr => exact (h ⟨_, rfl⟩).elim
    have hx : xs[k]? = some x := by rw [← List.head?_drop, ← er]; rfl
    obtain ⟨w, hw, rw'⟩ := q.get hx
    rw [Array.getElem?_toList] at hw
    refine wpAny_pyNext_tuple_item hit ⟨_, g, rfl, n, rfl⟩ hw fun h' hit' hs => ⟨w, rfl, ?_⟩
    obtain ⟨o, ho, hcl, hd⟩ := id hit'
    refine letOwned_other ho hcl (by decide) ⟨W, TrP.ext (by simp) hs.extBut, ?_, rw', ⟨rfl, rfl, rfl⟩, ⟨k + 1, a, hit', r, ?_⟩, fun b hb => ?_⟩
    · exact S.free (P := fun b => b = I) (fun b p => p ▸ (hf I (by simp)).1) fun b o nb e => (hs.2 b nb).trans e
    · rw [← List.tail_drop, ← er]; rfl
    · rw [List.mem_singleton] at hb; subst hb; exact ⟨(hf b (by simp)).1, by rw [ho]; simp⟩
  done := by
    rintro s W H S ⟨k, a, hit, r, er⟩ hf
    obtain ⟨a', us, n, c, e', g, q, hc⟩ := V.items_obj (H := H) S rfl r
    cases e'
    rcases hc with ⟨_, rfl⟩ | ⟨h, _⟩
    case inr => exact (h ⟨_, rfl⟩).elim
    have hx : us[k]? = none := by
      have hl : xs.length = us.size := q.length.trans (Array.length_toList ..)
      have : xs.length ≤ k := List.drop_eq_nil_iff.mp er.symm
      exact Array.getElem?_eq_none (by omega)
    refine wpAny_pyNext_tuple_end hh hit ⟨_, g, rfl, n, rfl⟩ hx fun h' hs => ⟨rfl, TrP.ext (by simp) hs, ?_, ⟨rfl, rfl, rfl⟩⟩
    exact S.free (P := fun b => b = I) (fun b p => p ▸ (hf I (by simp)).1) fun b o nb e => hs b o nb e
  self := by
    rintro s W H rest Q ⟨k, a, hit, _⟩ hQ
    exact wpAny_pyIter_tupleiter hit hQ

noncomputable def rangeFrom (k m : Nat) : List V := (List.range' k m).map fun (j : Nat) => V.int (j : Int)

/-- going through a range -/
noncomputable def Iter.range (hh : A.handled = none) (I : Addr) : Iter X A where
  I := I
  own := [I]
  G := []
  tg := fun _ => True
  St := fun _ _ rest h => ∃ (k m : Nat), IsRangeIter h I (k : Int) (m : Int) 1 ∧ rest = rangeFrom k m
  mem := by simp
  move := by
    rintro W W' H H' rest h h' ⟨k, m, hit, rfl⟩ le _ hk
    exact ⟨k, m, hk I (by simp) _ hit, rfl⟩
  item := by
    rintro target s W H x rest - S ⟨k, m, hit, er⟩ hf
    cases m with
    | zero => simp [rangeFrom] at er
    | succ m =>
      simp only [rangeFrom, List.range'_succ, List.map_cons, List.cons.injEq] at er
      obtain ⟨rfl, rfl⟩ := er
      refine wpAny_pyNext_range_item hit (by omega) fun h' hit' hs => ⟨_, rfl, ?_⟩
      refine letOwned_other hit' rfl (by decide) ⟨W, TrP.ext (by simp) hs.extBut, ?_, RV.int, ⟨rfl, rfl, rfl⟩, ⟨k + 1, m, ?_, rfl⟩, fun b hb => ?_⟩
      · exact S.free (P := fun b => b = I) (fun b p => p ▸ (hf I (by simp)).1) fun b o nb e => (hs.2 b nb).trans e
      · have e : (((m + 1 : Nat) : Int) - 1) = (m : Int) := by omega
        rw [e] at hit'
        exact hit'
      · rw [List.mem_singleton] at hb; subst hb; exact ⟨(hf b (by simp)).1, by rw [hit']; simp⟩
  done := by
    rintro s W H S ⟨k, m, hit, er⟩ hf
    cases m with
    | succ m => simp [rangeFrom, List.range'_succ] at er
    | zero =>
      refine wpAny_pyNext_range_end hh hit (by omega) fun h' hs => ⟨rfl, TrP.ext (by simp) hs, ?_, ⟨rfl, rfl, rfl⟩⟩
      exact S.free (P := fun b => b = I) (fun b p => p ▸ (hf I (by simp)).1) fun b o nb e => hs b o nb e
  self := by
    rintro s W H rest Q ⟨k, m, hit, _⟩ hQ
    exact wpAny_pyIter_rangeiter hit hQ

noncomputable def signsFrom (x : Str) (k : Nat) : List V := (x.cps.toList.drop k).map fun c => V.str ⟨#[c]⟩

/-- going through the signs of a text -/
noncomputable def Iter.str (hh : A.handled = none) (I : Addr) (x : Str) (t : Tok) : Iter X A where
  I := I
  own := [I]
  G := []
  tg := fun _ => True
  St := fun _ _ rest h => ∃ (k : Nat), h.IsStrIter I (strIterType x) x t k ∧ rest = signsFrom x k
  mem := by simp
  move := by
    rintro W W' H H' rest h h' ⟨k, ⟨o, ho, hc, hd⟩, rfl⟩ le _ hk
    exact ⟨k, ⟨o, hk I (by simp) o ho, hc, hd⟩, rfl⟩
  item := by
    rintro target s W H y rest - S ⟨k, hit, er⟩ hf
    have hk : k < x.cps.size := by
      rcases Nat.lt_or_ge k x.cps.size with h | h
      · exact h
      · rw [signsFrom, List.drop_of_length_le (by simpa using h)] at er; simp at er
    have hx : x.cps[k]? = some x.cps[k] := Array.getElem?_eq_getElem hk
    have e2 : signsFrom x k = V.str ⟨#[x.cps[k]]⟩ :: signsFrom x (k + 1) := by
      unfold signsFrom
      rw [List.drop_eq_getElem_cons (by simpa using hk), List.map_cons]
      simp
    rw [e2, List.cons.injEq] at er
    obtain ⟨rfl, rfl⟩ := er
    have fin : ∀ h', h'.IsStrIter I (strIterType x) x t (k + 1) → Heap.SameBut I s.heap h' → ∃ w, some (Value.str ⟨#[x.cps[k]]⟩ s.toks) = some w ∧ wpAny X.M A (letOwnedTupleGo target (.ref I) w) (fun _ s' =>
        ∃ W', TrP (· ∈ [I]) W W' s.heap s'.heap ∧ SR X.B W' H s'.heap ∧ RV W' (V.str ⟨#[x.cps[k]]⟩) w ∧ Rest s s' ∧ (∃ (k' : Nat), s'.heap.IsStrIter I (strIterType x) x t k' ∧ signsFrom x (k + 1) = signsFrom x k') ∧ ∀ b ∈ [I], Free X W' b ∧ s'.heap.get? b ≠ none) NoE { s with heap := h', toks := s.toks + 1 } := by
      intro h' hit' hs
      obtain ⟨o, ho, hcl, hd⟩ := id hit'
      refine ⟨_, rfl, letOwned_other ho hcl ?_ ⟨W, TrP.ext (by simp) hs.extBut, ?_, RV.str, ⟨rfl, rfl, rfl⟩, ⟨k + 1, hit', rfl⟩, fun b hb => ?_⟩⟩
      · unfold strIterType; split <;> decide
      · exact S.free (P := fun b => b = I) (fun b p => p ▸ (hf I (by simp)).1) fun b o nb e => (hs.2 b nb).trans e
      · rw [List.mem_singleton] at hb; subst hb; exact ⟨(hf b (by simp)).1, by rw [ho]; simp⟩
    cases ha : x.cps.all (· < 128)
    · have et : strIterType x = "str_iterator" := by simp [strIterType, ha]
      rw [et] at hit
      exact wpAny_pyNext_wide_item hit hx fun h' a b => fin h' (et.symm ▸ a) b
    · have et : strIterType x = "str_ascii_iterator" := by simp [strIterType, ha]
      rw [et] at hit
      exact wpAny_pyNext_ascii_item hit hx fun h' a b => fin h' (et.symm ▸ a) b
  done := by
    rintro s W H S ⟨k, hit, er⟩ hf
    have hx : x.cps[k]? = none := by
      refine Array.getElem?_eq_none ?_
      have := (List.map_eq_nil_iff.mp er.symm)
      rw [List.drop_eq_nil_iff] at this
      simpa using this
    have fin : ∀ h', Heap.ExtBut I s.heap h' → (none : Option Value) = none ∧ TrP (· ∈ [I]) W W s.heap h' ∧ SR X.B W H h' ∧ Rest s { s with heap := h' } := fun h' hs =>
      ⟨rfl, TrP.ext (by simp) hs, S.free (P := fun b => b = I) (fun b p => p ▸ (hf I (by simp)).1) fun b o nb e => hs b o nb e, ⟨rfl, rfl, rfl⟩⟩
    cases ha : x.cps.all (· < 128)
    · have et : strIterType x = "str_iterator" := by simp [strIterType, ha]
      rw [et] at hit
      exact wpAny_pyNext_wide_end hh hit hx fin
    · have et : strIterType x = "str_ascii_iterator" := by simp [strIterType, ha]
      rw [et] at hit
      exact wpAny_pyNext_ascii_end hh hit hx fin
  self := by
    rintro s W H rest Q ⟨k, hit, _⟩ hQ
    cases ha : x.cps.all (· < 128)
    · have et : strIterType x = "str_iterator" := by simp [strIterType, ha]
      rw [et] at hit
      exact wpAny_pyIter_striter_wide hit hQ
    · have et : strIterType x = "str_ascii_iterator" := by simp [strIterType, ha]
      rw [et] at hit
      exact wpAny_pyIter_striter_ascii hit hQ
end
end Mine
end

section
set_option autoImplicit false
namespace Mine
open PySem

section
variable {prog : Program} {w : World} {A : Around} {E : Value → Shared → Prop} {s : Shared}
theorem nextOf_tuple_item {it t : Addr} {i : Nat} {items : Array Value} {x : Value} {Q : Value → Shared → Prop} (hit : s.heap.IsTupleIter it t i)
    (ht : s.heap.IsTuple t items) (hx : items[i]? = some x)
    (hQ : ∀ h', h'.IsTupleIter it t (i + 1) → Heap.SameBut it s.heap h' → Q x { s with heap := h' }) :
    wpAny (model prog w) A (Builtin.SmallTypes.nextOf (.ref it)) Q E s := by
  obtain ⟨o, ho, hc, hd⟩ := id hit
  obtain ⟨ol, hol, _, nl, hdl⟩ := ht
  unfold Builtin.SmallTypes.nextOf
  refine wpAny_bind (wpAny_callSpecial?_slot (name := Str.ofString "__next__") hit.typeIs F.slot_tuple_iterator_next
    (wpAny_call_entry F.slot_tuple_iterator_next hit.typeIs F.entry_tuple_iterator_next ?_ (F.args_tuple_iterator_next_1 _)))
  show wpAny _ _ (field (.ref it) 0 >>= _) _ _ s
  refine wpAny_bind (wpAny_field ho hd (x := .ref t) rfl ?_)
  show wpAny _ _ (if (Value.ref t == Value.none) = true then _ else _) _ _ s
  rw [if_neg (show ¬ ((Value.ref t == Value.none) = true) from Bool.false_ne_true)]
  show wpAny _ _ (field (.ref it) 1 >>= _) _ _ s
  refine wpAny_bind (wpAny_field ho hd (x := .int i 0) rfl ?_)
  show wpAny _ _ (seqItems? (.ref t) >>= _) _ _ s
  refine wpAny_bind (wpAny_seqItems hol hdl ?_)
  simp only [Int.toNat_natCast, hx]
  refine wpAny_bind (wpAny_setField ho hd (by simp) (wpAny_pure ⟨x, rfl, wpAny_pure (hQ _ ?_ (Heap.SameBut.update ..))⟩))
  exact ⟨_, Heap.get?_update_self _ ho (Obj.isFreed_of_fields (Obj.data_mapFields hd _)), (Obj.cls_mapFields ..).trans hc, by
    rw [Obj.data_mapFields hd]; simp [rawInt]⟩

theorem nextOf_tuple_end {it t : Addr} {i : Nat} {items : Array Value} {Q : Value → Shared → Prop} (hh : A.handled = none)
    (hit : s.heap.IsTupleIter it t i) (ht : s.heap.IsTuple t items) (hx : items[i]? = none)
    (hE : ∀ h' e, Heap.ExtBut it s.heap h' → (∃ o, h'.get? e = some o ∧ o.cls = .type "StopIteration") → E (.ref e) { s with heap := h' }) :
    wpAny (model prog w) A (Builtin.SmallTypes.nextOf (.ref it)) Q E s := by
  obtain ⟨o, ho, hc, hd⟩ := id hit
  obtain ⟨ol, hol, _, nl, hdl⟩ := ht
  unfold Builtin.SmallTypes.nextOf
  refine wpAny_bind (wpAny_callSpecial?_slot (name := Str.ofString "__next__") hit.typeIs F.slot_tuple_iterator_next
    (wpAny_call_entry F.slot_tuple_iterator_next hit.typeIs F.entry_tuple_iterator_next ?_ (F.args_tuple_iterator_next_1 _)))
  show wpAny _ _ (field (.ref it) 0 >>= _) _ _ s
  refine wpAny_bind (wpAny_field ho hd (x := .ref t) rfl ?_)
  show wpAny _ _ (if (Value.ref t == Value.none) = true then _ else _) _ _ s
  rw [if_neg (show ¬ ((Value.ref t == Value.none) = true) from Bool.false_ne_true)]
  show wpAny _ _ (field (.ref it) 1 >>= _) _ _ s
  refine wpAny_bind (wpAny_field ho hd (x := .int i 0) rfl ?_)
  show wpAny _ _ (seqItems? (.ref t) >>= _) _ _ s
  refine wpAny_bind (wpAny_seqItems hol hdl ?_)
  simp only [Int.toNat_natCast, hx]
  refine wpAny_bind (wpAny_rule (wpAny_bind (wpAny_setField ho hd (by simp) ?_)))
  show wpAny _ _ (newExc (.type "StopIteration") [] >>= _) _ _ _
  refine wpAny_bind ?_
  simp only [newExc, newTuple]
  refine wpAny_bind (wpAny_newObj_type ?_ (by size_fits))
  refine wpAny_bind (m := firstArgMember _ _) (wpAny_of_eq (a := Value.none) (by first | rfl | (simp only [firstArgMember]; rfl)) ?_)
  refine wpAny_newObj_type ?_ (by size_fits)
  simp only [raiseNew]
  refine wpAny_bind (wpAny_handled ?_)
  first | rw [show A.in1.handled = none from hh] | rw [hh]
  refine wpAny_bind (wpAny_pure (wpAny_throw ?_))
  exact hE _ _ (((Heap.SameBut.update ..).extBut.push _).push _) ⟨_, Heap.get?_push_size _ rfl, rfl⟩

/-- a tuple's or a list's walk -/
noncomputable def SIt : Bool → Heap → Addr → Addr → Nat → Prop
  | true, h, it, a, k => h.IsTupleIter it a k
  | false, h, it, a, k => h.IsListIter it a k
noncomputable def SSq : Bool → Heap → Addr → Array Value → Prop
  | true, h, a, us => h.IsTuple a us
  | false, h, a, us => h.IsList a us
theorem SIt.at {b : Bool} {h h' : Heap} {it a : Addr} {k : Nat} (x : SIt b h it a k) (e : ∀ o, h.get? it = some o → h'.get? it = some o) : SIt b h' it a k := by
  cases b <;> (obtain ⟨o, ho, r⟩ := x; exact ⟨o, e o ho, r⟩)
theorem SSq.at {b : Bool} {h h' : Heap} {a : Addr} {us : Array Value} (x : SSq b h a us) (e : ∀ o, h.get? a = some o → h'.get? a = some o) : SSq b h' a us := by
  cases b <;> (obtain ⟨o, ho, r⟩ := x; exact ⟨o, e o ho, r⟩)
theorem SIt.alive {b : Bool} {h : Heap} {it a : Addr} {k : Nat} (x : SIt b h it a k) : ∃ o, h.get? it = some o := by
  cases b <;> (obtain ⟨o, ho, r⟩ := x; exact ⟨o, ho⟩)
theorem nextOf_S_item {b : Bool} {it t : Addr} {i : Nat} {items : Array Value} {x : Value} {Q : Value → Shared → Prop} (hit : SIt b s.heap it t i)
    (ht : SSq b s.heap t items) (hx : items[i]? = some x)
    (hQ : ∀ h', SIt b h' it t (i + 1) → Heap.SameBut it s.heap h' → Q x { s with heap := h' }) :
    wpAny (model prog w) A (Builtin.SmallTypes.nextOf (.ref it)) Q E s := by
  cases b
  · exact wpAny_nextOf_list_item hit ht hx hQ
  · exact nextOf_tuple_item hit ht hx hQ
theorem nextOf_S_end {b : Bool} {it t : Addr} {i : Nat} {items : Array Value} {Q : Value → Shared → Prop} (hh : A.handled = none)
    (hit : SIt b s.heap it t i) (ht : SSq b s.heap t items) (hx : items[i]? = none)
    (hE : ∀ h' e, Heap.ExtBut it s.heap h' → (∃ o, h'.get? e = some o ∧ o.cls = .type "StopIteration") → E (.ref e) { s with heap := h' }) :
    wpAny (model prog w) A (Builtin.SmallTypes.nextOf (.ref it)) Q E s := by
  cases b
  · exact wpAny_nextOf_list_end hh hit ht hx hE
  · exact nextOf_tuple_end hh hit ht hx hE

theorem zip_item {b1 b2 : Bool} {z TI TO i1 i2 l1 l2 : Addr} {k1 k2 : Nat} {xs ys : Array Value} {x y a b : Value} {Q : Value → Shared → Prop} (D : ZipApart z TI TO i1 i2 l1 l2)
    (hz : IsZip s.heap z TI TO .none) (hTI : IsPair s.heap TI (.ref i1) (.ref i2)) (hTO : IsPair s.heap TO a b)
    (h1 : SIt b1 s.heap i1 l1 k1) (h2 : SIt b2 s.heap i2 l2 k2) (hl1 : SSq b1 s.heap l1 xs) (hl2 : SSq b2 s.heap l2 ys) (hx : xs[k1]? = some x) (hy : ys[k2]? = some y)
    (hQ : ∀ h', IsZip h' z TI TO (rawInt s.heap.objs.size) → IsPair h' TO x y → SIt b1 h' i1 l1 (k1 + 1) → SIt b2 h' i2 l2 (k2 + 1) → IsPair h' s.heap.objs.size x y →
      (∀ c o, c ≠ z → c ≠ TO → c ≠ i1 → c ≠ i2 → s.heap.get? c = some o → h'.get? c = some o) → Q (.ref s.heap.objs.size) { s with heap := h' }) :
    wpAny (model prog w) A (Builtin.«zip.__next__» ⟨[.ref z], []⟩) (fun fin s' => ∃ v, fin = .done (.ret v) ∧ Q v s') E s := by
  show wpAny _ _ (field (.ref z) 2 >>= _) _ _ _
  refine wpAny_bind (wpAny_field hz rfl (x := .bool false) rfl ?_)
  show wpAny _ _ (field (.ref z) 3 >>= _) _ _ _
  refine wpAny_bind (wpAny_field hz rfl (x := .ref TI) rfl ?_)
  refine wpAny_bind (wpAny_seqItems hTI rfl ?_)
  show wpAny _ _ (Builtin.SmallTypes.ownedTupleIsFree (.ref z) >>= _) _ _ _
  refine wpAny_bind ?_
  unfold Builtin.SmallTypes.ownedTupleIsFree
  refine wpAny_bind (wpAny_field hz rfl (x := .none) rfl (wpAny_pure ?_))
  simp only [if_true]
  refine wpAny_bind (wpAny_rule ?_)
  refine wpAny_bind (wpAny_field hz rfl (x := .ref TO) rfl ?_)
  refine wpAny_bind (wpAny_setField_rec hz (by simp) fun h₁ hz₁ hs₁ => ?_)
  replace hz₁ : IsZip h₁ z TI TO .ellipsis := hz₁
  refine wpAny_bind ?_
  simp only [List.zipIdx_cons, List.zipIdx_nil, List.forIn_cons, List.forIn_nil]
  refine wpAny_bind (wpAny_bind (wpAny_onRaise ?_))
  show wpAny _ _ (Builtin.SmallTypes.nextOf (.ref i1) >>= _) _ _ _
  refine wpAny_bind (nextOf_S_item (h1.at fun o e => hs₁.extBut _ _ D.i1z e) (hl1.at fun o e => hs₁.extBut _ _ D.l1z e) hx fun h₂ h1₂ hs₂ => wpAny_pure ?_)
  have hTO₂ : IsPair h₂ TO a b := hs₂.extBut _ _ D.TOi1 (hs₁.extBut _ _ D.TOz hTO)
  refine wpAny_bind (wpAny_seqItems hTO₂ rfl ?_)
  refine wpAny_bind (wpAny_updateSeq_pair hTO₂ fun h₃ hTO₃ hs₃ => ?_)
  replace hTO₃ : IsPair h₃ TO x b := hTO₃
  refine wpAny_bind (wpAny_letGo (wpAny_pure ?_))
  refine wpAny_bind (wpAny_bind (wpAny_onRaise ?_))
  show wpAny _ _ (Builtin.SmallTypes.nextOf (.ref i2) >>= _) _ _ _
  refine wpAny_bind (nextOf_S_item (h2.at fun o e => hs₃.extBut _ _ D.TOi2.symm (hs₂.extBut _ _ D.i12.symm (hs₁.extBut _ _ D.i2z e)))
    (hl2.at fun o e => hs₃.extBut _ _ D.l2TO (hs₂.extBut _ _ D.l2i1 (hs₁.extBut _ _ D.l2z e))) hy fun h₄ h2₄ hs₄ => wpAny_pure ?_)
  have hTO₄ : IsPair h₄ TO x b := hs₄.extBut _ _ D.TOi2 hTO₃
  refine wpAny_bind (wpAny_seqItems hTO₄ rfl ?_)
  refine wpAny_bind (wpAny_updateSeq_pair hTO₄ fun h₅ hTO₅ hs₅ => ?_)
  replace hTO₅ : IsPair h₅ TO x y := hTO₅
  refine wpAny_bind (wpAny_letGo (wpAny_pure (wpAny_pure ?_)))
  refine wpAny_bind (wpAny_seqItems hTO₅ rfl ?_)
  refine wpAny_bind (wpAny_newTuple ?_)
  have hsz : h₅.objs.size = s.heap.objs.size := by rw [hs₅.1, hs₄.1, hs₃.1, hs₂.1, hs₁.1]
  have hz₅ : IsZip h₅ z TI TO .ellipsis := hs₅.extBut _ _ D.TOz.symm (hs₄.extBut _ _ D.i2z.symm (hs₃.extBut _ _ D.TOz.symm (hs₂.extBut _ _ D.i1z.symm hz₁)))
  have hk₅ : ∀ c o, c ≠ z → c ≠ TO → c ≠ i1 → c ≠ i2 → s.heap.get? c = some o → h₅.get? c = some o := fun c o c1 c2 c3 c4 e =>
    hs₅.extBut _ _ c2 (hs₄.extBut _ _ c4 (hs₃.extBut _ _ c2 (hs₂.extBut _ _ c3 (hs₁.extBut _ _ c1 e))))
  have h1₅ : SIt b1 h₅ i1 l1 (k1 + 1) := h1₂.at fun o e => hs₅.extBut _ _ D.TOi1.symm (hs₄.extBut _ _ D.i12 (hs₃.extBut _ _ D.TOi1.symm e))
  have h2₅ : SIt b2 h₅ i2 l2 (k2 + 1) := h2₄.at fun o e => hs₅.extBut _ _ D.TOi2.symm e
  have hzlt : z < h₅.objs.size := Heap.lt_size hz₅
  show wpAny _ _ (Builtin.SmallTypes.ownedTupleHandOut (.ref z) (.ref h₅.objs.size) >>= _) _ _ _
  refine wpAny_bind ?_
  unfold Builtin.SmallTypes.ownedTupleHandOut
  have hz₆ : IsZip (h₅.push { cls := .type "tuple", data := .seq #[x, y] }) z TI TO .ellipsis := Heap.get?_push_of_some _ hz₅
  refine wpAny_bind (wpAny_setField_rec hz₆ (by simp) fun h₇ hz₇ hs₇ => ?_)
  replace hz₇ : IsZip h₇ z TI TO (rawInt h₅.objs.size) := hz₇
  refine wpAny_setField_rec hz₇ (by simp) fun h₈ hz₈ hs₈ => ?_
  replace hz₈ : IsZip h₈ z TI TO (rawInt h₅.objs.size) := hz₈
  have up : ∀ c o, c ≠ z → h₅.get? c = some o → h₈.get? c = some o := fun c o c1 e => hs₈.extBut _ _ c1 (hs₇.extBut _ _ c1 (Heap.get?_push_of_some _ e))
  have hT₈ : IsPair h₈ h₅.objs.size x y := hs₈.extBut _ _ (Nat.ne_of_gt hzlt) (hs₇.extBut _ _ (Nat.ne_of_gt hzlt) (Heap.get?_push_size _ rfl))
  rw [hsz] at hz₈ hT₈
  refine wpAny_pure ⟨_, rfl, ?_⟩
  show Q (.ref h₅.objs.size) _
  rw [hsz]
  exact hQ h₈ hz₈ (up _ _ D.TOz hTO₅) (h1₅.at fun o e => up _ o D.i1z e) (h2₅.at fun o e => up _ o D.i2z e) hT₈ fun c o c1 c2 c3 c4 e => up c o c1 (hk₅ c o c1 c2 c3 c4 e)

theorem zip_end {b1 b2 : Bool} {z TI TO i1 i2 l1 l2 : Addr} {k1 k2 : Nat} {xs ys : Array Value} {a b : Value} {Q : Fin → Shared → Prop} (hh : A.handled = none) (D : ZipApart z TI TO i1 i2 l1 l2)
    (hz : IsZip s.heap z TI TO .none) (hTI : IsPair s.heap TI (.ref i1) (.ref i2)) (hTO : IsPair s.heap TO a b)
    (h1 : SIt b1 s.heap i1 l1 k1) (h2 : SIt b2 s.heap i2 l2 k2) (hl1 : SSq b1 s.heap l1 xs) (hl2 : SSq b2 s.heap l2 ys) (hend : xs[k1]? = none ∨ ys[k2]? = none)
    (hE : ∀ h' e, (∀ c o, c ≠ z → c ≠ TO → c ≠ i1 → c ≠ i2 → s.heap.get? c = some o → h'.get? c = some o) → (∃ o, h'.get? e = some o ∧ o.cls = .type "StopIteration") → E (.ref e) { s with heap := h' }) :
    wpAny (model prog w) A (Builtin.«zip.__next__» ⟨[.ref z], []⟩) Q E s := by
  show wpAny _ _ (field (.ref z) 2 >>= _) _ _ _
  refine wpAny_bind (wpAny_field hz rfl (x := .bool false) rfl ?_)
  show wpAny _ _ (field (.ref z) 3 >>= _) _ _ _
  refine wpAny_bind (wpAny_field hz rfl (x := .ref TI) rfl ?_)
  refine wpAny_bind (wpAny_seqItems hTI rfl ?_)
  show wpAny _ _ (Builtin.SmallTypes.ownedTupleIsFree (.ref z) >>= _) _ _ _
  refine wpAny_bind ?_
  unfold Builtin.SmallTypes.ownedTupleIsFree
  refine wpAny_bind (wpAny_field hz rfl (x := .none) rfl (wpAny_pure ?_))
  simp only [if_true]
  refine wpAny_bind (wpAny_rule ?_)
  refine wpAny_bind (wpAny_field hz rfl (x := .ref TO) rfl ?_)
  refine wpAny_bind (wpAny_setField_rec hz (by simp) fun h₁ hz₁ hs₁ => ?_)
  replace hz₁ : IsZip h₁ z TI TO .ellipsis := hz₁
  refine wpAny_bind ?_
  simp only [List.zipIdx_cons, List.zipIdx_nil, List.forIn_cons, List.forIn_nil]
  refine wpAny_bind (wpAny_bind (wpAny_onRaise ?_))
  show wpAny _ _ (Builtin.SmallTypes.nextOf (.ref i1) >>= _) _ _ _
  cases hx : xs[k1]? with
  | none =>
    refine wpAny_bind (nextOf_S_end hh (h1.at fun o e => hs₁.extBut _ _ D.i1z e) (hl1.at fun o e => hs₁.extBut _ _ D.l1z e) hx fun h₂ e hs₂ he => ?_)
    obtain ⟨oe, hoe, hce⟩ := he
    have hz₂ : IsZip h₂ z TI TO .ellipsis := hs₂ _ _ D.i1z.symm hz₁
    have hez : e ≠ z := fun x => by subst x; rw [hz₂] at hoe; cases hoe; simp at hce
    refine wpAny_setField_rec hz₂ (by simp) fun h₃ _ hs₃ => hE h₃ e (fun c o c1 _ c3 _ x => hs₃.extBut _ _ c1 (hs₂ _ _ c3 (hs₁.extBut _ _ c1 x))) ⟨oe, hs₃.extBut _ _ hez hoe, hce⟩
  | some x =>
    have hy : ys[k2]? = none := by rcases hend with h | h; rw [hx] at h; cases h; exact h
    refine wpAny_bind (nextOf_S_item (h1.at fun o e => hs₁.extBut _ _ D.i1z e) (hl1.at fun o e => hs₁.extBut _ _ D.l1z e) hx fun h₂ h1₂ hs₂ => wpAny_pure ?_)
    have hTO₂ : IsPair h₂ TO a b := hs₂.extBut _ _ D.TOi1 (hs₁.extBut _ _ D.TOz hTO)
    refine wpAny_bind (wpAny_seqItems hTO₂ rfl ?_)
    refine wpAny_bind (wpAny_updateSeq_pair hTO₂ fun h₃ hTO₃ hs₃ => ?_)
    refine wpAny_bind (wpAny_letGo (wpAny_pure ?_))
    refine wpAny_bind (wpAny_bind (wpAny_onRaise ?_))
    show wpAny _ _ (Builtin.SmallTypes.nextOf (.ref i2) >>= _) _ _ _
    refine wpAny_bind (nextOf_S_end hh (h2.at fun o e => hs₃.extBut _ _ D.TOi2.symm (hs₂.extBut _ _ D.i12.symm (hs₁.extBut _ _ D.i2z e)))
      (hl2.at fun o e => hs₃.extBut _ _ D.l2TO (hs₂.extBut _ _ D.l2i1 (hs₁.extBut _ _ D.l2z e))) hy fun h₄ e hs₄ he => ?_)
    obtain ⟨oe, hoe, hce⟩ := he
    have hz₄ : IsZip h₄ z TI TO .ellipsis := hs₄ _ _ D.i2z.symm (hs₃.extBut _ _ D.TOz.symm (hs₂.extBut _ _ D.i1z.symm hz₁))
    have hez : e ≠ z := fun x => by subst x; rw [hz₄] at hoe; cases hoe; simp at hce
    refine wpAny_setField_rec hz₄ (by simp) fun h₅ _ hs₅ => hE h₅ e (fun c o c1 c2 c3 c4 x => hs₅.extBut _ _ c1 (hs₄ _ _ c4 (hs₃.extBut _ _ c2 (hs₂.extBut _ _ c3 (hs₁.extBut _ _ c1 x))))) ⟨oe, hs₅.extBut _ _ hez hoe, hce⟩

theorem pyIter_S {b : Bool} {a : Addr} {us : Array Value} {Q : Value → Shared → Prop} (h : SSq b s.heap a us)
    (hQ : Q (.ref s.heap.objs.size) { s with heap := s.heap.push { cls := .type (if b then "tuple_iterator" else "list_iterator"), data := .fields #[.ref a, .int 0 0] } }) : wpAny (model prog w) A (pyIter (.ref a)) Q E s := by
  cases b
  · exact wpAny_pyIter_list h hQ
  · exact wpAny_pyIter_tuple h hQ
end

noncomputable abbrev zH1 (h : Heap) (b1 : Bool) (l1 : Addr) : Heap := h.push { cls := .type (if b1 then "tuple_iterator" else "list_iterator"), data := .fields #[.ref l1, .int 0 0] }
noncomputable abbrev zH2 (h : Heap) (b1 b2 : Bool) (l1 l2 : Addr) : Heap := (zH1 h b1 l1).push { cls := .type (if b2 then "tuple_iterator" else "list_iterator"), data := .fields #[.ref l2, .int 0 0] }
noncomputable abbrev zH3 (h : Heap) (b1 b2 : Bool) (l1 l2 : Addr) : Heap := (zH2 h b1 b2 l1 l2).push { cls := .type "tuple", data := .seq #[.ref h.objs.size, .ref (zH1 h b1 l1).objs.size] }
noncomputable abbrev zH4 (h : Heap) (b1 b2 : Bool) (l1 l2 : Addr) : Heap := (zH3 h b1 b2 l1 l2).push { cls := .type "tuple", data := .seq #[.none, .none] }
noncomputable abbrev zH5 (h : Heap) (b1 b2 : Bool) (l1 l2 : Addr) : Heap := (zH4 h b1 b2 l1 l2).push { cls := .type "zip", data := .fields #[.none, .bool false, .bool false, .ref (zH2 h b1 b2 l1 l2).objs.size, .ref (zH3 h b1 b2 l1 l2).objs.size] }

theorem meets_zip (b1 b2 : Bool) (l1 l2 : Addr) (xs ys : Array Value) :
    Meets (Builtin.«zip.__new__» ⟨[.type "zip", .ref l1, .ref l2], []⟩) (fun _ R s => SSq b1 s.heap l1 xs ∧ SSq b2 s.heap l2 ys ∧
      R (.ok (.ret (.ref (zH4 s.heap b1 b2 l1 l2).objs.size))) { s with heap := zH5 s.heap b1 b2 l1 l2 }) :=
  .of_wp fun prog w A R s h => by
    obtain ⟨hp, g, d, tk, os⟩ := s; obtain ⟨hl1, hl2, h⟩ := h
    have hsub := sub_zip
    have hL1 : SSq b1 (Shared.heap ⟨hp, g, d, tk, os⟩) l1 xs := hl1
    have hL2 : SSq b2 (Shared.heap ⟨hp.push { cls := .type (if b1 then "tuple_iterator" else "list_iterator"), data := .fields #[.ref l1, .int 0 0] }, g, d, tk, os⟩) l2 ys := hl2.at fun o e => Heap.get?_push_of_some _ e
    wp_walk using pyIter_S hL1, pyIter_S hL2
    exact ⟨_, rfl, h⟩
end Mine
end

section
set_option autoImplicit false
namespace Mine
open PySem

section
variable {prog : Program} {w : World} {A : Around} {E : Value → Shared → Prop} {s : Shared}
theorem call_zip {b1 b2 : Bool} {l1 l2 : Addr} {xs ys : Array Value} {Q : Value → Shared → Prop} (hl1 : SSq b1 s.heap l1 xs) (hl2 : SSq b2 s.heap l2 ys)
    (h : ∀ h', IsZip h' (s.heap.objs.size + 4) (s.heap.objs.size + 2) (s.heap.objs.size + 3) .none → IsPair h' (s.heap.objs.size + 2) (.ref s.heap.objs.size) (.ref (s.heap.objs.size + 1)) →
      IsPair h' (s.heap.objs.size + 3) .none .none → SIt b1 h' s.heap.objs.size l1 0 → SIt b2 h' (s.heap.objs.size + 1) l2 0 →
      (∀ c o, s.heap.get? c = some o → h'.get? c = some o) → Q (.ref (s.heap.objs.size + 4)) { s with heap := h' }) :
    wpAny (model prog w) A (call (.type "zip") [.ref l1, .ref l2]) Q E s := by
  refine callType_new F.called_zip (by decide) (F.typeCall_zip_2 _ _) (F.newCall_zip_2 _ _) (fun obj => F.args_object_init_3 obj _ _) F.entry_zip_new
    (meets_zip b1 b2 l1 l2 xs ys) ⟨hl1, hl2, ?_⟩
  have z1 : (zH1 s.heap b1 l1).objs.size = s.heap.objs.size + 1 := Heap.size_push ..
  have z2 : (zH2 s.heap b1 b2 l1 l2).objs.size = s.heap.objs.size + 2 := by rw [Heap.size_push, z1]
  have z3 : (zH3 s.heap b1 b2 l1 l2).objs.size = s.heap.objs.size + 3 := by rw [Heap.size_push, z2]
  have z4 : (zH4 s.heap b1 b2 l1 l2).objs.size = s.heap.objs.size + 4 := by rw [Heap.size_push, z3]
  have g5 : (zH5 s.heap b1 b2 l1 l2).get? (zH4 s.heap b1 b2 l1 l2).objs.size = some _ := Heap.get?_push_size _ rfl
  have g4 : (zH5 s.heap b1 b2 l1 l2).get? (zH3 s.heap b1 b2 l1 l2).objs.size = some _ := Heap.get?_push_of_some _ (Heap.get?_push_size _ rfl)
  have g3 : (zH5 s.heap b1 b2 l1 l2).get? (zH2 s.heap b1 b2 l1 l2).objs.size = some _ := Heap.get?_push_of_some _ (Heap.get?_push_of_some _ (Heap.get?_push_size _ rfl))
  have g2 : (zH5 s.heap b1 b2 l1 l2).get? (zH1 s.heap b1 l1).objs.size = some _ := Heap.get?_push_of_some _ (Heap.get?_push_of_some _ (Heap.get?_push_of_some _ (Heap.get?_push_size _ rfl)))
  have g1 : (zH5 s.heap b1 b2 l1 l2).get? s.heap.objs.size = some _ := Heap.get?_push_of_some _ (Heap.get?_push_of_some _ (Heap.get?_push_of_some _ (Heap.get?_push_of_some _ (Heap.get?_push_size _ rfl))))
  show _ ∧ _
  rw [z2, z3, z4] at g5
  rw [z1, z2] at g3
  rw [z3] at g4
  rw [z1] at g2
  rw [z4]
  refine ⟨⟨_, g5, rfl⟩, h _ g5 g3 g4 ?_ ?_ fun c o x =>
    Heap.get?_push_of_some _ (Heap.get?_push_of_some _ (Heap.get?_push_of_some _ (Heap.get?_push_of_some _ (Heap.get?_push_of_some _ x))))⟩
  · cases b1 <;> exact ⟨_, g1, rfl, rfl⟩
  · cases b2 <;> exact ⟨_, g2, rfl, rfl⟩
end

noncomputable def isTupV : V → Bool
  | .tup _ => true
  | _ => false
noncomputable def isTupT : Expr → Prop
  | .Tuple _ _ _ => True
  | _ => False

theorem items_S {X : Cx} {W : Wd} {H : Hp} {h : Heap} (S : SR X.B W H h) {x : V} {a : Addr} {xs : List V} (e : x.items H = some xs) (r : RV W x (.ref a)) :
    ∃ us : Array Value, SSq (isTupV x) h a us ∧ RVs W xs us.toList ∧ ((W.σ a).isSome = true ∨ a ∈ W.φ) := by
  obtain ⟨a', us, n, c, e', g, q, hc⟩ := V.items_obj S e r
  cases e'
  refine ⟨us, ?_, q, ?_⟩
  · rcases hc with ⟨⟨ys, rfl⟩, rfl⟩ | ⟨h1, rfl⟩
    · exact ⟨_, g, rfl, n, rfl⟩
    · have : isTupV x = false := by cases x <;> first | rfl | exact (h1 ⟨_, rfl⟩).elim
      rw [this]; exact ⟨_, g, rfl, n, rfl⟩
  · cases x <;> simp only [V.items, reduceCtorEq] at e
    · simp only [RV] at r; obtain ⟨b, vs, n, q1, q2, _⟩ := r; cases q1; exact .inl (by rw [q2]; rfl)
    · simp only [RV] at r; obtain ⟨b, vs, n, q1, q2, _⟩ := r; cases q1; exact .inl (by rw [q2]; rfl)
    · simp only [RV] at r; obtain ⟨b, q1, q2⟩ := r; cases q1; exact .inr (List.mem_of_getElem? q2)

theorem zipV_nil_left {ys : List V} : zipV [] ys = [] := by cases ys <;> rfl
theorem zipV_nil_right {xs : List V} : zipV xs [] = [] := by cases xs <;> rfl

theorem items_guard {H H' : Hp} {x : V} {xs : List V} (e : x.items H = some xs) (hG : ∀ i : Nat, i ∈ guardOf x → H'[i]? = H[i]?) : x.items H' = some xs := by
  cases x <;> simp only [V.items, reduceCtorEq] at e ⊢
  · exact e
  · exact e
  · rw [hG _ (by simp [guardOf])]; exact e

theorem Free.apart {X : Cx} {W : Wd} {a b : Addr} (f : Free X W b) (h : (W.σ a).isSome = true ∨ a ∈ W.φ) : a ≠ b := by
  rintro rfl
  rcases h with h | h
  · rw [f.2.1] at h; cases h
  · exact f.2.2 h

structure ZD (z TI TO i1 i2 : Addr) : Prop where
  TIz : TI ≠ z
  TOz : TO ≠ z
  i1z : i1 ≠ z
  i2z : i2 ≠ z
  TITO : TI ≠ TO
  TIi1 : TI ≠ i1
  TIi2 : TI ≠ i2
  TOi1 : TO ≠ i1
  TOi2 : TO ≠ i2
  i12 : i1 ≠ i2

/-- going through a zip -/
noncomputable def Iter.zip {X : Cx} {A : Around} (hh : A.handled = none) (z TI TO i1 i2 : Addr) (D : ZD z TI TO i1 i2) (x y : V) : Iter X A where
  I := z
  own := [z, TI, TO, i1, i2]
  G := guardOf x ++ guardOf y
  tg := isTupT
  St := fun W H rest h => ∃ (k : Nat) (xs ys : List V) (a1 a2 : Addr), IsZip h z TI TO .none ∧ IsPair h TI (.ref i1) (.ref i2) ∧ (∃ a b, IsPair h TO a b) ∧ SIt (isTupV x) h i1 a1 k ∧ SIt (isTupV y) h i2 a2 k ∧
    x.items H = some xs ∧ y.items H = some ys ∧ RV W x (.ref a1) ∧ RV W y (.ref a2) ∧ rest = zipV (xs.drop k) (ys.drop k)
  mem := by simp
  move := by
    rintro W W' H H' rest h h' ⟨k, xs, ys, a1, a2, hz, hTI, ⟨a, b, hTO⟩, h1, h2, e1, e2, r1, r2, rfl⟩ le hG hk
    exact ⟨k, xs, ys, a1, a2, hk z (by simp) _ hz, hk TI (by simp) _ hTI, ⟨a, b, hk TO (by simp) _ hTO⟩, h1.at (hk i1 (by simp)), h2.at (hk i2 (by simp)),
      items_guard e1 fun i m => hG i (List.mem_append.mpr (.inl m)), items_guard e2 fun i m => hG i (List.mem_append.mpr (.inr m)), r1.mono le, r2.mono le, rfl⟩
  item := by
    rintro target s W H v rest ht S ⟨k, xs, ys, a1, a2, hz, hTI, ⟨a, b, hTO⟩, h1, h2, e1, e2, r1, r2, er⟩ hf
    obtain ⟨us, q1, p1, m1⟩ := items_S S e1 r1
    obtain ⟨ts, q2, p2, m2⟩ := items_S S e2 r2
    have DD : ZipApart z TI TO i1 i2 a1 a2 := ⟨D.TIz, D.TOz, D.i1z, D.i2z, D.TITO, D.TIi1, D.TIi2, D.TOi1, D.TOi2, D.i12,
      (hf z (by simp)).1.apart m1, (hf TO (by simp)).1.apart m1, (hf i1 (by simp)).1.apart m1, (hf i2 (by simp)).1.apart m1,
      (hf z (by simp)).1.apart m2, (hf TO (by simp)).1.apart m2, (hf i1 (by simp)).1.apart m2, (hf i2 (by simp)).1.apart m2⟩
    cases ex : xs.drop k with
    | nil => rw [ex, zipV_nil_left] at er; cases er
    | cons x0 xr =>
    cases ey : ys.drop k with
    | nil => rw [ey, zipV_nil_right] at er; cases er
    | cons y0 yr =>
    rw [ex, ey] at er
    simp only [zipV, List.cons.injEq] at er
    obtain ⟨rfl, rfl⟩ := er
    obtain ⟨wx, hwx, rwx⟩ := p1.get (i := k) (x := x0) (by rw [← List.head?_drop, ex]; rfl)
    obtain ⟨wy, hwy, rwy⟩ := p2.get (i := k) (x := y0) (by rw [← List.head?_drop, ey]; rfl)
    rw [Array.getElem?_toList] at hwx hwy
    have hT : s.TypeIs (.ref z) "zip" := ⟨_, hz, rfl⟩
    unfold pyNext
    refine wpAny_bind (wpAny_attempt (wpAny_callSpecial?_slot (name := Str.ofString "__next__") hT F.slot_zip_next
      (wpAny_call_entry F.slot_zip_next hT F.entry_zip_next (zip_item DD hz hTI hTO h1 h2 q1 q2 hwx hwy fun h' a1' a2' a3' a4' a5' a7' => wpAny_pure ⟨_, rfl, ?_⟩) (F.args_zip_next_1 _))))
    cases target <;> try exact ht.elim
    refine wpAny_letOwnedTupleGo_zip a1' fun h'' hz'' hs'' => ?_
    have hn := get_none_size s.heap
    have nown : ∀ c, c ∈ [z, TI, TO, i1, i2] → c ≠ s.heap.objs.size := fun c hc e => (hf c hc).2 (e ▸ hn)
    have kp : ∀ c o, c ≠ z → c ≠ TO → c ≠ i1 → c ≠ i2 → s.heap.get? c = some o → h''.get? c = some o := fun c o n1 n2 n3 n4 e => (hs''.2 c n1).trans (a7' c o n1 n2 n3 n4 e)
    have hT' : h''.get? s.heap.objs.size = some (sObj "tuple" #[wx, wy] 0) := (hs''.2 _ (nown z (by simp)).symm).trans a5'
    have hzn : W.σ s.heap.objs.size = none := by
      cases q : W.σ s.heap.objs.size with
      | none => rfl
      | some o => rw [S.froz _ _ q] at hn; cases hn
    have hfn : s.heap.objs.size ∉ W.φ := fun m => S.mem_alive m hn
    have S' : SR X.B W H h'' := S.free (P := fun b => b ∈ [z, TI, TO, i1, i2]) (fun b p => (hf b p).1) fun b o nb e => kp b o (fun q => nb (by simp [q])) (fun q => nb (by simp [q])) (fun q => nb (by simp [q])) (fun q => nb (by simp [q])) e
    have t1 : TrP (· ∈ [z, TI, TO, i1, i2]) W W s.heap h'' := by
      refine ⟨.refl _, fun b o e _ nb => ?_, fun b e nb => ?_, fun _ m => .inl m, fun _ _ m => .inl m⟩
      · exact kp b o (fun q => nb (by simp [q])) (fun q => nb (by simp [q])) (fun q => nb (by simp [q])) (fun q => nb (by simp [q])) e
      · cases q : s.heap.get? b with
        | none => exact absurd q e
        | some o => rw [kp b o (fun q => nb (by simp [q])) (fun q => nb (by simp [q])) (fun q => nb (by simp [q])) (fun q => nb (by simp [q])) q]; simp
    have hTI'' : IsPair h'' TI (.ref i1) (.ref i2) := kp _ _ D.TIz D.TITO D.TIi1 D.TIi2 hTI
    have hTO'' : IsPair h'' TO wx wy := (hs''.2 _ D.TOz).trans a2'
    have g1 := a3'.at (h' := h'') fun o e => (hs''.2 _ D.i1z).trans e
    have g2 := a4'.at (h' := h'') fun o e => (hs''.2 _ D.i2z).trans e
    refine ⟨W.freeze s.heap.objs.size (sObj "tuple" #[wx, wy] 0), ?_, S'.freeze hT' hzn hfn, ?_, ⟨rfl, rfl, rfl⟩, ⟨k + 1, xs, ys, a1, a2, hz'', hTI'', ⟨_, _, hTO''⟩, g1, g2, e1, e2, r1.mono (Wd.le_freeze hzn), r2.mono (Wd.le_freeze hzn), ?_⟩, ?_⟩
    · refine ⟨t1.le.trans (Wd.le_freeze hzn), t1.keep, t1.alive, t1.nf, fun b ob q => ?_⟩
      by_cases hb : b = s.heap.objs.size
      · rw [hb]; exact .inr (.inl hn)
      · have q' : (if b = s.heap.objs.size then some (sObj "tuple" #[wx, wy] 0) else W.σ b) = some ob := q
        rw [if_neg hb] at q'; exact .inl q'
    · simp only [RV]
      exact ⟨_, #[wx, wy], 0, rfl, Wd.freeze_self, by simp only [RVs]; exact ⟨rwx.mono (Wd.le_freeze hzn), rwy.mono (Wd.le_freeze hzn), trivial⟩⟩
    · rw [← List.tail_drop, ex, ← List.tail_drop, ey]; rfl
    · intro b hb
      refine ⟨⟨(hf b hb).1.1, ?_, (hf b hb).1.2.2⟩, ?_⟩
      · show (if b = s.heap.objs.size then some (sObj "tuple" #[wx, wy] 0) else W.σ b) = none
        rw [if_neg (nown b hb)]; exact (hf b hb).1.2.1
      · simp only [List.mem_cons, List.not_mem_nil, or_false] at hb
        rcases hb with rfl | rfl | rfl | rfl | rfl
        · rw [hz'']; simp
        · rw [hTI'']; simp
        · rw [hTO'']; simp
        · obtain ⟨o, e⟩ := g1.alive; rw [e]; simp
        · obtain ⟨o, e⟩ := g2.alive; rw [e]; simp
  done := by
    rintro s W H S ⟨k, xs, ys, a1, a2, hz, hTI, ⟨a, b, hTO⟩, h1, h2, e1, e2, r1, r2, er⟩ hf
    obtain ⟨us, q1, p1, m1⟩ := items_S S e1 r1
    obtain ⟨ts, q2, p2, m2⟩ := items_S S e2 r2
    have DD : ZipApart z TI TO i1 i2 a1 a2 := ⟨D.TIz, D.TOz, D.i1z, D.i2z, D.TITO, D.TIi1, D.TIi2, D.TOi1, D.TOi2, D.i12,
      (hf z (by simp)).1.apart m1, (hf TO (by simp)).1.apart m1, (hf i1 (by simp)).1.apart m1, (hf i2 (by simp)).1.apart m1,
      (hf z (by simp)).1.apart m2, (hf TO (by simp)).1.apart m2, (hf i1 (by simp)).1.apart m2, (hf i2 (by simp)).1.apart m2⟩
    have hend : us[k]? = none ∨ ts[k]? = none := by
      cases ex : xs.drop k with
      | nil =>
        have hl : xs.length = us.size := p1.length.trans (Array.length_toList ..)
        exact .inl (Array.getElem?_eq_none (by have := List.drop_eq_nil_iff.mp ex; omega))
      | cons x0 xr =>
        cases ey : ys.drop k with
        | nil =>
          have hl : ys.length = ts.size := p2.length.trans (Array.length_toList ..)
          exact .inr (Array.getElem?_eq_none (by have := List.drop_eq_nil_iff.mp ey; omega))
        | cons y0 yr => rw [ex, ey] at er; simp [zipV] at er
    have hT : s.TypeIs (.ref z) "zip" := ⟨_, hz, rfl⟩
    unfold pyNext
    refine wpAny_bind (wpAny_attempt (wpAny_callSpecial?_slot (name := Str.ofString "__next__") hT F.slot_zip_next
      (wpAny_call_entry F.slot_zip_next hT F.entry_zip_next (zip_end hh DD hz hTI hTO h1 h2 q1 q2 hend fun h' e hk he => ?_) (F.args_zip_next_1 _))))
    obtain ⟨o, ho, hc⟩ := he
    refine wpAny_bind (wpAny_isInstance (T := "StopIteration") (b := true) ⟨o, ho, hc⟩ isSubtype_stop ?_)
    have kp : ∀ b o, b ∉ [z, TI, TO, i1, i2] → s.heap.get? b = some o → h'.get? b = some o := fun b o nb e => hk b o (fun q => nb (by simp [q])) (fun q => nb (by simp [q])) (fun q => nb (by simp [q])) (fun q => nb (by simp [q])) e
    refine wpAny_pure ⟨rfl, ⟨.refl _, fun b o e _ nb => kp b o nb e, fun b e nb => ?_, fun _ m => .inl m, fun _ _ m => .inl m⟩, ?_, ⟨rfl, rfl, rfl⟩⟩
    · cases q : s.heap.get? b with
      | none => exact absurd q e
      | some o => rw [kp b o nb q]; simp
    · exact S.free (P := fun b => b ∈ [z, TI, TO, i1, i2]) (fun b p => (hf b p).1) kp
  self := by
    rintro s W H rest Q ⟨k, xs, ys, a1, a2, hz, _⟩ hQ
    exact wpAny_pyIter_zip hz hQ
end Mine
end

section
set_option autoImplicit false
namespace Mine
open PySem

/-- which targets an iterator takes -/
noncomputable def itTg : It → Expr → Prop
  | .zip _ _, t => isTupT t
  | _, _ => True

inductive PIt (X : Cx) (A : Around) (W : Wd) (s : Shared) (ci : It) (H' : Hp) (xs : List V) (G : List Nat) (it : Value) (s₂ : Shared) : Prop
  | mk (Z : Iter X A) (W' : Wd) (e : it = .ref Z.I) (t : Tr W W' s.heap s₂.heap) (S : SR X.B W' H' s₂.heap) (q : Rest s s₂) (st : Z.St W' H' xs s₂.heap)
    (own : ∀ b ∈ Z.own, Free X W' b ∧ s₂.heap.get? b ≠ none ∧ s.heap.get? b = none) (g : ∀ i ∈ Z.G, i ∈ G) (tg : ∀ t, itTg ci t → Z.tg t) : PIt X A W s ci H' xs G it s₂

structure SimIt (X : Cx) (c : Ctx) (k : Nat) (ns : List Str) (sc : Scope) (e : Expr) (ci : It) : Prop where
  run : ∀ (env : Env) (ρ : Loc) (H : Hp) (xs : List V) (G : List Nat) (H' : Hp) (A : Around) (s : Shared) (W : Wd), evalIt c ci ρ H = some (xs, G, H') → EnvOk X sc env → FR W env ns sc ρ s.heap → AOk k A → SR X.B W H s.heap →
    wpAny X.M A (eval e env) (fun x s₁ => wpAny X.M A (pyIter x) (PIt X A W s ci H' xs G) NoE s₁) NoE s
  fold : ∀ env x, foldedSetIterable e env x = pure x

theorem fold_plain {e : Expr} (h : plainE e = true) : ∀ env x, foldedSetIterable e env x = pure x := by
  intro env x
  cases e <;> first | rfl | (simp only [plainE, Bool.false_eq_true] at h)

section
variable {X : Cx} {G : Glob} {c : Ctx} {k : Nat} {ns : List Str} {sc : Scope} {W W' : Wd} {s s₀ s' : Shared} {H H' : Hp} {ρ : Loc} {v : V} {w : Value} {A : Around} {env : Env}

/-- the iterator of a value -/
theorem pyIter_value (hh : A.handled = none) (S : SR X.B W H s.heap) (t₀ : Tr W' W s₀.heap s.heap) (q₀ : Rest s₀ s) {xs : List V} (e : iterV H v = some xs) (r : RV W v w) (ce : E) :
    wpAny X.M A (pyIter w) (PIt X A W' s₀ (.of ce) H xs (guardOf v)) NoE s := by
  have hn := get_none_size s.heap
  have fin : ∀ (o : Obj) (Z : Iter X A), Z.own = [s.heap.objs.size] → Z.I = s.heap.objs.size → Z.St W H xs (s.heap.push o) → o.isFreed = false → (∀ i ∈ Z.G, i ∈ guardOf v) → (∀ t, Z.tg t) →
      PIt X A W' s₀ (.of ce) H xs (guardOf v) (.ref s.heap.objs.size) { s with heap := s.heap.push o } := by
    intro o Z h1 h2 h3 h4 h5 h6
    have hk : ∀ b ob, s.heap.get? b = some ob → (s.heap.push o).get? b = some ob := fun b ob e => Heap.get?_push_of_some _ e
    refine ⟨Z, W, by rw [h2], t₀.trans (Tr.grow hk), S.grow hk, ⟨q₀.gens, q₀.drawn, q₀.os⟩, h3, fun b hb => ?_, h5, fun t _ => h6 t⟩
    rw [h1, List.mem_singleton] at hb
    subst hb
    exact ⟨Free.of_none S hn, by show (s.heap.push o).get? _ ≠ none; rw [Heap.get?_push_size _ h4]; simp, Classical.byContradiction fun q => t₀.alive _ q hn⟩
  have lst : v.items H = some xs → (¬ ∃ ys, v = .tup ys) → wpAny X.M A (pyIter w) (PIt X A W' s₀ (.of ce) H xs (guardOf v)) NoE s := by
    intro e nt
    obtain ⟨a, us, n, cc, rfl, g, q, hc⟩ := V.items_obj S e r
    rcases hc with ⟨h, _⟩ | ⟨_, rfl⟩
    · exact (nt h).elim
    exact wpAny_pyIter_list ⟨_, g, rfl, n, rfl⟩ (fin _ (Iter.list hh s.heap.objs.size v) rfl rfl ⟨0, xs, a, ⟨_, Heap.get?_push_size _ rfl, rfl, rfl⟩, e, r, rfl, nt⟩ rfl (fun i m => m) fun _ => trivial)
  cases v with
  | none => simp only [iterV, reduceCtorEq] at e
  | bool b => simp only [iterV, reduceCtorEq] at e
  | int i => simp only [iterV, reduceCtorEq] at e
  | str x =>
    simp only [iterV, Option.some.injEq] at e
    subst e
    simp only [RV] at r
    obtain ⟨t, rfl⟩ := r
    exact wpAny_pyIter_strU (fin _ (Iter.str hh s.heap.objs.size x t) rfl rfl ⟨0, ⟨_, Heap.get?_push_size _ rfl, rfl, rfl⟩, rfl⟩ rfl (fun i m => m) fun _ => trivial)
  | tup ys =>
    simp only [iterV, Option.some.injEq] at e
    subst e
    obtain ⟨a, us, n, cc, rfl, g, q, hc⟩ := V.items_obj (H := H) S rfl r
    rcases hc with ⟨_, rfl⟩ | ⟨h, _⟩
    case inr => exact (h ⟨_, rfl⟩).elim
    exact wpAny_pyIter_tuple ⟨_, g, rfl, n, rfl⟩ (fin _ (Iter.tuple hh s.heap.objs.size ys) rfl rfl ⟨0, a, ⟨_, Heap.get?_push_size _ rfl, rfl, rfl⟩, r, rfl⟩ rfl (fun i m => m) fun _ => trivial)
  | lst ys => exact lst e (by simp)
  | ref i =>
    simp only [iterV] at e
    split at e
    · rename_i ys hi
      exact lst (by simp only [V.items, hi]; exact e) (by simp)
    · cases e

theorem simIt_of {e : Expr} {ce : E} (h : SimE X c k ns sc e ce) : SimIt X c k ns sc e (.of ce) := by
  refine ⟨fun env ρ H xs G H' A s W ev hE f hA S => ?_, fold_plain h.plain⟩
  simp only [evalIt] at ev
  split at ev
  · rename_i v H1 e1
    rw [Option.map_eq_some_iff] at ev
    obtain ⟨ys, e2, e3⟩ := ev
    cases e3
    refine wpAny_mono (h.val env ρ H v _ A s W e1 hE f hA S) (fun w s₁ p => ?_) fun _ _ x => x
    obtain ⟨W1, t1, S1, r1, q1⟩ := p
    exact pyIter_value hA.handled S1 t1 q1 e2 r1 ce
  · cases ev

theorem simIt_range (hB : BaseOk X) {f : Str} (hv : X.gv f = some (.type "range")) (hg : isGlob sc f = true) {e : Expr} {ce : E} (h : SimE X c k ns sc e ce) {p pos : Pos} : SimIt X c k ns sc (.Call (.Name f p) [e] [] pos) (.range ce) := by
  refine ⟨fun env ρ H xs G H' A s W ev hE f hA S => ?_, fun _ _ => rfl⟩
  simp only [evalIt] at ev
  split at ev
  · rename_i n H1 e1
    split at ev
    · rename_i hlt
      cases ev
      refine ty_call hB hv hg (.cons h .nil) (vs := [.int n]) (H' := H') (by simp only [evalEs, e1]) hE f hA S fun ws s₁ W1 t1 S1 r1 q1 => ?_
      obtain ⟨u, rfl, r⟩ := r1.one
      simp only [RV] at r
      obtain ⟨t, rfl⟩ := r
      refine call_range_1 ?_
      have hn := get_none_size s₁.heap
      have hrs : Builtin.Range.rangeSize 0 n 1 = (n.toNat : Int) := by
        unfold Builtin.Range.rangeSize
        simp only [show (1 : Int) > 0 from by decide, if_true]
        split <;> omega
      have hfit : ∀ i : Int, -1000000 < i → i < 1000001 → Builtin.Range.rangeFitsLong i = true := by
        intro i h1 h2
        unfold Builtin.Range.rangeFitsLong
        simp only [Bool.and_eq_true, decide_eq_true_eq]
        omega
      have hsm : Builtin.Range.small 0 n 1 = true := by
        unfold Builtin.Range.small
        rw [hrs, hfit 0 (by omega) (by omega), hfit n (by omega) (by omega), hfit 1 (by omega) (by omega), hfit n.toNat (by omega) (by omega), if_pos (by decide), hfit (n + (1 - 1)) (by omega) (by omega)]
        simp
      refine wpAny_pyIter_range (a := 0) (b := n) (c := 1) (Heap.get?_push_size _ rfl) hsm ?_
      have hk : ∀ (o1 o2 : Obj) b ob, s₁.heap.get? b = some ob → ((s₁.heap.push o1).push o2).get? b = some ob := fun o1 o2 b ob e => Heap.get?_push_of_some _ (Heap.get?_push_of_some _ e)
      have hn2 : ∀ o1 : Obj, s₁.heap.get? (s₁.heap.push o1).objs.size = none := fun o1 => by
        cases q : s₁.heap.get? (s₁.heap.push o1).objs.size with
        | none => rfl
        | some o => have := Heap.lt_size q; rw [Heap.size_push] at this; exact absurd this (Nat.not_lt.mpr (Nat.le_succ _))
      refine ⟨Iter.range hA.handled _, W1, rfl, t1.trans (Tr.grow (hk _ _)), S1.grow (hk _ _), ⟨q1.gens, q1.drawn, q1.os⟩, ⟨0, n.toNat, ?_, ?_⟩, fun b hb => ?_, fun i m => m, fun _ _ => trivial⟩
      · rw [← hrs]; exact Heap.get?_push_size _ rfl
      · simp [rangeV, rangeFrom, List.range_eq_range']
      · have hb' : b = _ := List.mem_singleton.mp hb
        subst hb'
        have up : ∀ (h : Heap) (o : Obj), o.isFreed = false → (h.push o).get? h.objs.size ≠ none := fun h o e => by rw [Heap.get?_push_size _ e]; simp
        exact ⟨Free.of_none S1 (hn2 _), up _ _ rfl, Classical.byContradiction fun q => t1.alive _ q (hn2 _)⟩
    · cases ev
  · cases ev

theorem simIt_zip (hB : BaseOk X) {f : Str} (hv : X.gv f = some (.type "zip")) (hg : isGlob sc f = true) {a b : Expr} {ca cb : E} (ha : SimE X c k ns sc a ca) (hb : SimE X c k ns sc b cb) {p pos : Pos} : SimIt X c k ns sc (.Call (.Name f p) [a, b] [] pos) (.zip ca cb) := by
  refine ⟨fun env ρ H xs G H' A s W ev hE f hA S => ?_, fun _ _ => rfl⟩
  simp only [evalIt] at ev
  split at ev
  · rename_i x H1 e1
    split at ev
    · rename_i y H2 e2
      rw [Option.bind_eq_some_iff] at ev
      obtain ⟨xs', i1, ev⟩ := ev
      rw [Option.map_eq_some_iff] at ev
      obtain ⟨ys', i2, ev⟩ := ev
      cases ev
      refine ty_call hB hv hg (.cons ha (.cons hb .nil)) (vs := [x, y]) (H' := H') (by simp only [evalEs, e1, e2]) hE f hA S fun ws s₁ W1 t1 S1 r1 q1 => ?_
      obtain ⟨u, t, rfl, rx, ry⟩ := r1.two
      obtain ⟨a1, us1, n1, c1, rfl, _⟩ := V.items_obj S1 i1 rx
      obtain ⟨a2, us2, n2, c2, rfl, _⟩ := V.items_obj S1 i2 ry
      obtain ⟨us, g1, p1, m1⟩ := items_S S1 i1 rx
      obtain ⟨ts, g2, p2, m2⟩ := items_S S1 i2 ry
      refine call_zip g1 g2 fun h' hz hTI hTO h1 h2 hk => ?_
      refine wpAny_pyIter_zip hz ?_
      refine ⟨Iter.zip hA.handled (s₁.heap.objs.size + 4) (s₁.heap.objs.size + 2) (s₁.heap.objs.size + 3) s₁.heap.objs.size (s₁.heap.objs.size + 1) (by constructor <;> first | exact Nat.ne_of_lt (by omega) | exact Nat.ne_of_gt (by omega)) x y, W1, rfl, t1.trans (Tr.grow hk), S1.grow hk, ⟨q1.gens, q1.drawn, q1.os⟩,
        ⟨0, xs', ys', a1, a2, hz, hTI, ⟨_, _, hTO⟩, h1, h2, i1, i2, rx, ry, rfl⟩, fun b hb => ?_, fun i m => m, fun t ht => ht⟩
      have hge : s₁.heap.objs.size ≤ b := by
        have hb' : b ∈ [s₁.heap.objs.size + 4, s₁.heap.objs.size + 2, s₁.heap.objs.size + 3, s₁.heap.objs.size, s₁.heap.objs.size + 1] := hb
        simp only [List.mem_cons, List.not_mem_nil, or_false] at hb'
        rcases hb' with rfl | rfl | rfl | rfl | rfl <;> first | exact Nat.le_refl _ | exact Nat.le_add_right _ _
      have hn : s₁.heap.get? b = none := by
        cases q : s₁.heap.get? b with
        | none => rfl
        | some o => exact absurd (Heap.lt_size q) (Nat.not_lt.mpr hge)
      refine ⟨Free.of_none S1 hn, ?_, Classical.byContradiction fun q => t1.alive _ q hn⟩
      have hb' : b ∈ [s₁.heap.objs.size + 4, s₁.heap.objs.size + 2, s₁.heap.objs.size + 3, s₁.heap.objs.size, s₁.heap.objs.size + 1] := hb
      simp only [List.mem_cons, List.not_mem_nil, or_false] at hb'
      rcases hb' with rfl | rfl | rfl | rfl | rfl
      · rw [hz]; simp
      · rw [hTI]; simp
      · rw [hTO]; simp
      · obtain ⟨o, e⟩ := h1.alive; rw [e]; simp
      · obtain ⟨o, e⟩ := h2.alive; rw [e]; simp
    · cases ev
  · cases ev
end
end Mine
end

section
set_option autoImplicit false
namespace Mine
open PySem

theorem slotOf_name {ns : List Str} {x : Str} {i : Nat} (h : slotOf ns x = some i) : ns[i]? = some x := by
  unfold slotOf at h
  rw [List.findIdx?_eq_some_iff_getElem] at h
  obtain ⟨hi, h1, _⟩ := h
  rw [List.getElem?_eq_getElem hi]
  exact congrArg some (eq_of_beq h1)
theorem slotOf_inj {ns : List Str} {x y : Str} {i : Nat} (h : slotOf ns x = some i) (h' : slotOf ns y = some i) : x = y := by
  have a := slotOf_name h; have b := slotOf_name h'; rw [a] at b; exact Option.some.inj b

theorem Ns_unique {h : Heap} {a : Addr} {m m' : Str → Option Value} (x : h.Ns a m) (y : h.Ns a m') : m = m' := by
  obtain ⟨o, es, ep, e, d, _, r⟩ := x
  obtain ⟨o', es', ep', e', d', _, r'⟩ := y
  rw [e] at e'; cases e'
  rw [d] at d'; cases d'
  funext z; rw [← r, ← r']

theorem Ns_not_cell {h : Heap} {a : Addr} {m : Str → Option Value} {v : Option Value} (x : h.Ns a m) (y : h.IsCell a v) : False := by
  obtain ⟨o, es, ep, e, d, _⟩ := x
  obtain ⟨o', e', d'⟩ := y
  rw [e] at e'; cases e'
  rw [d] at d'; cases d'

theorem isTgt_loc {sc : Scope} {x : Str} (h : isTgt sc x = true) : isLoc sc x = true := by
  unfold isTgt at h; unfold isLoc
  rw [Bool.and_eq_true] at h ⊢
  refine ⟨?_, h.2⟩
  have := h.1
  split at this
  · rename_i e; rw [e]
  · rename_i e; rw [e]
  · cases this
theorem isTgt_kind {sc : Scope} {x : Str} (h : isTgt sc x = true) : sc.names.lookup x = some .local ∨ sc.names.lookup x = some .cell := by
  unfold isTgt at h
  rw [Bool.and_eq_true] at h
  have := h.1
  split at this
  · rename_i e; exact .inl e
  · rename_i e; exact .inr e
  · cases this

/-- what of the frame may be bound -/
noncomputable def OwnW (sc : Scope) (env : Env) (b : Addr) : Prop := b = env.locals ∨ ∃ x, sc.names.lookup x = some .cell ∧ env.cells.lookup x = some b
theorem OwnW.own {sc : Scope} {env : Env} {b : Addr} (h : OwnW sc env b) : Own env b := h.elim .inl fun ⟨x, _, e⟩ => .inr ⟨x, e⟩

/-- after a step that changed the frame alone -/
structure PF (X : Cx) (W : Wd) (s : Shared) (H : Hp) (env : Env) (ns : List Str) (sc : Scope) (ρ : Loc) (s' : Shared) : Prop where
  t : TrP (OwnW sc env) W W s.heap s'.heap
  S : SR X.B W H s'.heap
  f : FR W env ns sc ρ s'.heap
  q : Rest s s'

section
variable {X : Cx} {W W' : Wd} {s s' : Shared} {H H' : Hp} {ρ ρ' : Loc} {v : V} {w : Value} {A : Around} {env : Env} {sc : Scope} {ns : List Str}

theorem FR.free {h : Heap} (hE : EnvOk X sc env) (f : FR W env ns sc ρ h) {b : Addr} (o : Own env b) : Free X W b := ⟨hE.base b o, f.apart b o, f.out b o⟩

theorem sim_store (hE : EnvOk X sc env) (f : FR W env ns sc ρ s.heap) (S : SR X.B W H s.heap) {x : Str} {i : Nat} (hx : isTgt sc x = true) (hi : slotOf ns x = some i) (r : RV W v w) (hlt : i < ρ.length) {E : Value → Shared → Prop} :
    wpAny X.M A (storeName env x w) (fun _ s' => PF X W s H env ns sc (ρ.set i (some v)) s') E s := by
  have key : ∀ (s' : Shared) (a : Addr), OwnW sc env a → Heap.SameBut a s.heap s'.heap → s'.heap.get? a ≠ none → Rest s s' → (∃ m, s'.heap.Ns env.locals m) → (∀ y c, env.cells.lookup y = some c → ∃ v, s'.heap.IsCell c v) →
      (∀ y u, y ≠ x → Bd env s.heap y u → Bd env s'.heap y u) → Bd env s'.heap x w → PF X W s H env ns sc (ρ.set i (some v)) s' := by
    intro s' a oa hs ha hr h1 h2 h3 h4
    refine ⟨TrP.ext oa hs.extBut, S.free (P := fun b => b = a) (fun b p => p ▸ f.free hE oa.own) fun b o nb e => (hs.2 b nb).trans e, ⟨?_, f.out, ?_, h1, h2, f.apart⟩, hr⟩
    · intro y j u hy hj hu
      by_cases hij : j = i
      · subst hij
        rw [List.getElem?_set_self hlt] at hu
        cases hu
        have := slotOf_inj hj hi
        subst this
        exact ⟨w, r, h4⟩
      · rw [List.getElem?_set_ne (Ne.symm hij)] at hu
        obtain ⟨w', r', b'⟩ := f.vars y j u hy hj hu
        exact ⟨w', r', h3 y w' (fun e => hij (by subst e; rw [hj] at hi; exact Option.some.inj hi)) b'⟩
    · intro b ob
      by_cases hb : b = a
      · subst hb; exact ha
      · rw [hs.2 b hb]; exact f.alive b ob
  rcases isTgt_kind hx with hk | hk
  · have hloc := hE.loc x hk
    obtain ⟨m, hn⟩ := f.nsp
    refine wpAny_storeName_local hloc hn (fun h' hn' hs' => ?_) (by rw [hE.kind]; rfl)
    refine key _ env.locals (.inl rfl) hs' ?_ ⟨rfl, rfl, rfl⟩ ⟨_, hn'⟩ ?_ ?_ (.inl ⟨hloc, _, hn', if_pos rfl⟩)
    · obtain ⟨o, _, _, e, _⟩ := hn'; show h'.get? _ ≠ none; rw [e]; simp
    · intro y c hc
      obtain ⟨u, hu⟩ := f.cell y c hc
      exact ⟨u, hu.sameBut hs' fun e => Ns_not_cell hn (e ▸ hu)⟩
    · rintro y u hy (⟨ky, m', hm', e'⟩ | ⟨ky, c, hc, hu⟩)
      · refine .inl ⟨ky, _, hn', ?_⟩
        rw [Ns_unique hm' hn] at e'
        show (if y = x then _ else _) = _
        rw [if_neg hy]; exact e'
      · exact .inr ⟨ky, c, hc, hu.sameBut hs' fun e => Ns_not_cell hn (e ▸ hu)⟩
  · have hcel := hE.cel x hk
    obtain ⟨c, hc⟩ := hE.cells x (.inl hk)
    obtain ⟨v₀, hv₀⟩ := f.cell x c hc
    obtain ⟨m, hn⟩ := f.nsp
    refine wpAny_storeName_cell hE.kind hcel hc hv₀ fun h' hv' hs' => ?_
    refine key _ c (.inr ⟨x, hk, hc⟩) hs' ?_ ⟨rfl, rfl, rfl⟩ ⟨_, hn.sameBut hs' fun e => Ns_not_cell hn (e ▸ hv₀)⟩ ?_ ?_ (.inr ⟨.inl hcel, c, hc, hv'⟩)
    · obtain ⟨o, e, _⟩ := hv'; show h'.get? _ ≠ none; rw [e]; simp
    · intro y c' hc'
      by_cases hcc : c' = c
      · subst hcc; exact ⟨_, hv'⟩
      · obtain ⟨u, hu⟩ := f.cell y c' hc'
        exact ⟨u, hu.sameBut hs' hcc⟩
    · rintro y u hy (⟨ky, m', hm', e'⟩ | ⟨ky, c', hc', hu⟩)
      · exact .inl ⟨ky, m', hm'.sameBut hs' fun e => Ns_not_cell hm' (e ▸ hv₀), e'⟩
      · exact .inr ⟨ky, c', hc', hu.sameBut hs' fun e => hy (hE.inj y x c' hc' (e ▸ hc))⟩

theorem PF.trans (p : PF X W s H env ns sc ρ s') {s'' : Shared} (q : PF X W s' H env ns sc ρ' s'') : PF X W s H env ns sc ρ' s'' :=
  ⟨p.1.trans q.1, q.2, q.3, p.4.trans q.4⟩

theorem sim_storeAll (hE : EnvOk X sc env) {E : Value → Shared → Prop} : ∀ {es : List Expr} {is : List Nat} {vs : List V} {ws : List Value} {ρ ρ' : Loc} {s : Shared}, mapO (tgN ns sc) es = some is → bindSlots is vs ρ = some ρ' → RVs W vs ws →
    FR W env ns sc ρ s.heap → SR X.B W H s.heap → wpAny X.M A (assignInOrder ((assignEach es env).map (·.2)) ws) (fun _ s' => PF X W s H env ns sc ρ' s') E s
  | [], is, vs, ws, ρ, ρ', s, h1, h2, r, f, S => by
    simp only [mapO, Option.some.injEq] at h1
    subst h1
    cases vs with
    | cons _ _ => simp only [bindSlots, reduceCtorEq] at h2
    | nil =>
      simp only [bindSlots, Option.some.injEq] at h2
      subst h2
      cases ws with
      | cons _ _ => simp only [RVs] at r
      | nil => exact wpAny_pure ⟨.refl, S, f, .refl _⟩
  | e :: es, is, vs, ws, ρ, ρ', s, h1, h2, r, f, S => by
    simp only [mapO] at h1
    split at h1
    · rename_i i hi
      split at h1
      · rename_i is' his
        cases h1
        cases e <;> simp only [tgN, reduceCtorEq] at hi
        rename_i x px
        split at hi
        · rename_i hx
          cases vs with
          | nil => simp only [bindSlots, reduceCtorEq] at h2
          | cons v vs =>
            simp only [bindSlots] at h2
            split at h2
            · rename_i hlt
              cases ws with
              | nil => simp only [RVs] at r
              | cons w ws =>
                simp only [RVs] at r
                show wpAny X.M A (assignInOrder (assign (.Name x px) env :: (assignEach es env).map (·.2)) (w :: ws)) _ _ s
                show wpAny X.M A (do holding ws (assign (.Name x px) env w); assignInOrder ((assignEach es env).map (·.2)) ws) _ _ s
                refine wpAny_bind (wpAny_holding (wpAny_assign_Name (wpAny_mono (sim_store hE f S hx hi r.1 hlt) (fun _ s₁ p => ?_) fun _ _ x => x)))
                exact wpAny_mono (sim_storeAll hE his h2 r.2 p.3 p.2) (fun _ s₂ q => p.trans q) fun _ _ x => x
            · cases h2
        · cases hi
      · cases h1
    · cases h1
end
end Mine
end

section
set_option autoImplicit false
namespace Mine
open PySem

section
variable {X : Cx} {W W' : Wd} {s s' : Shared} {H H' : Hp} {ρ ρ' : Loc} {v : V} {w : Value} {A : Around} {env : Env} {sc : Scope} {ns : List Str}

theorem assignEach_names {es : List Expr} {is : List Nat} (h : mapO (tgN ns sc) es = some is) (env : Env) : (assignEach es env).length = is.length ∧ (assignEach es env).findIdx? (·.1) = none := by
  induction es generalizing is with
  | nil => simp only [mapO, Option.some.injEq] at h; subst h; exact ⟨rfl, rfl⟩
  | cons e es ih =>
    simp only [mapO] at h
    split at h
    · rename_i i hi
      split at h
      · rename_i is' his
        cases h
        cases e <;> simp only [tgN, reduceCtorEq] at hi
        obtain ⟨h1, h2⟩ := ih his
        refine ⟨by simp only [assignEach, List.length_cons, h1], ?_⟩
        simp only [assignEach, List.findIdx?_cons, h2]
        rfl
      · cases h
    · cases h

theorem bindSlots_length : ∀ {is : List Nat} {vs : List V} {ρ ρ' : Loc}, bindSlots is vs ρ = some ρ' → is.length = vs.length ∧ ρ'.length = ρ.length
  | [], [], _, _, h => by simp only [bindSlots, Option.some.injEq] at h; subst h; exact ⟨rfl, rfl⟩
  | i :: is, v :: vs, ρ, ρ', h => by
    simp only [bindSlots] at h
    split at h
    · obtain ⟨h1, h2⟩ := bindSlots_length h
      exact ⟨by simp [h1], by rw [h2, List.length_set]⟩
    · cases h
  | [], _ :: _, _, _, h => by simp only [bindSlots, reduceCtorEq] at h
  | _ :: _, [], _, _, h => by simp only [bindSlots, reduceCtorEq] at h

theorem sim_assign (hh : A.handled = none) (hE : EnvOk X sc env) (f : FR W env ns sc ρ s.heap) (S : SR X.B W H s.heap) {target : Expr} {t : T} (ht : trT ns sc target = some t) (hb : bindT t v ρ = some ρ') (r : RV W v w) {E : Value → Shared → Prop} :
    wpAny X.M A (assign target env w) (fun _ s' => PF X W s H env ns sc ρ' s') E s := by
  cases target <;> simp only [trT, reduceCtorEq] at ht
  · rename_i x pos
    rw [Option.map_eq_some_iff] at ht
    obtain ⟨i, hi, rfl⟩ := ht
    simp only [tgN] at hi
    split at hi
    · rename_i hx
      simp only [bindT] at hb
      split at hb
      · rename_i hlt
        cases hb
        exact wpAny_assign_Name (sim_store hE f S hx hi r hlt)
      · cases hb
    · cases hi
  · rename_i es k pos
    rw [Option.map_eq_some_iff] at ht
    obtain ⟨is, his, rfl⟩ := ht
    simp only [bindT] at hb
    split at hb
    · rename_i vs
      simp only [RV] at r
      obtain ⟨a, us, n, rfl, g, q⟩ := r
      obtain ⟨h1, h2⟩ := assignEach_names his env
      have hl := (bindSlots_length hb).1
      have hl2 : vs.length = us.size := q.length.trans (Array.length_toList ..)
      refine wpAny_assign_Tuple hh ⟨_, S.froz _ _ g, rfl, n, rfl⟩ (by omega) h2 fun h' hx => ?_
      have hk : ∀ b o, s.heap.get? b = some o → h'.get? b = some o := fun b o e => hx b o (Nat.ne_of_lt (Heap.lt_size e)) e
      have hS : SR X.B W H ({ s with heap := h' } : Shared).heap := S.grow hk
      have hf : FR W env ns sc ρ ({ s with heap := h' } : Shared).heap := f.move (Tr.grow hk)
      refine wpAny_mono (sim_storeAll hE his hb q hf hS) (fun _ s₂ p => ?_) fun _ _ x => x
      exact ⟨((Tr.grow (W := W) hk).toP).trans p.1, p.2, p.3, ⟨p.4.gens, p.4.drawn, p.4.os⟩⟩
    · cases hb
end

theorem compLoop_any {prog : Program} {w : World} {A : Around} {R : Result → Shared → Prop} {s : Shared} {elt target iter : Expr} {ifs : List Expr} {scope : Scope} {pos : Pos} {it acc : Value} {env : Env} (I : Nat → Shared → Prop)
    (turn : ∀ n s, I n s → wpAny (model prog w) A (pyNext it) (fun r s₁ => match r with
      | none => R (.ok .next) s₁
      | some v => wpAny (model prog w) A (letOwnedTupleGo target it v) (fun _ s₁' => wpAny (model prog w) A (assign target env v) (fun _ s₂ =>
          wpAny (model prog w) A (forIn ifs true fun c r => if r = true then do let ok ← isTrue c env (eval c env); pure (ForInStep.yield ok) else pure (ForInStep.yield r)) (fun ok s₃ =>
            if ok = true then wpAny (model prog w) A (eval elt env) (fun x s₄ =>
              wpAny (model prog w) A (call (.builtin "list.append") [acc, x]) (fun _ s₅ => ∃ m, m < n ∧ I m s₅) NoE s₄) NoE s₃
            else ∃ m, m < n ∧ I m s₃) NoE s₂) NoE s₁') NoE s₁) NoE s)
    (n : Nat) (h : I n s) :
    codeAny (model prog w) A (.compLoop (.ListComp elt [⟨target, iter, ifs, 0⟩] scope pos) 0 it acc env) R s := by
  refine codeAny_loop rfl I (fun n s hI => ?_) n h
  show wpAny _ A ((compTurn (.ListComp elt [⟨target, iter, ifs, 0⟩] scope pos) 0 it acc env).onRaise (fun x => do noteFrame x env; theTreesLotGoes x)) _ _ s
  refine wpAny_noted ?_
  rw [compTurn_list]
  refine wpAny_bind (wpAny_standAt (wpAny_bind (wpAny_mono (turn n s hI) (fun r s₁ h₁ => ?_) fun _ _ h' => h'.elim)))
  cases r with
  | none => exact wpAny_pure h₁
  | some v =>
    refine wpAny_bind (wpAny_mono h₁ (fun _ s₁' h₁' => ?_) fun _ _ h' => h'.elim)
    refine wpAny_bind (wpAny_mono h₁' (fun _ s₂ h₂ => wpAny_bind (wpAny_mono h₂ (fun ok s₃ h₃ => ?_) fun _ _ h' => h'.elim)) fun _ _ h' => h'.elim)
    cases ok with
    | false => exact wpAny_pure ⟨rfl, h₃⟩
    | true =>
      exact wpAny_bind (wpAny_bind (wpAny_mono h₃ (fun x s₄ h₄ => wpAny_bind (wpAny_mono h₄ (fun _ s₅ h₅ => wpAny_pure (wpAny_pure ⟨rfl, h₅⟩)) fun _ _ h' => h'.elim)) fun _ _ h' => h'.elim))

section
variable {X : Cx} {c : Ctx} {k : Nat} {ns : List Str} {sc : Scope} {W W' : Wd} {s s' : Shared} {H H' : Hp} {ρ : Loc} {A : Around} {env : Env}

/-- the tests of a comprehension -/
theorem sim_ifs {es : List Expr} {ces : List E} (h : SimEs X c k ns sc es ces) (hE : EnvOk X sc env) (hA : AOk k A) {b : Bool} :
    ∀ {W : Wd} {s : Shared}, evalIfs c ces ρ H = some b → FR W env ns sc ρ s.heap → SR X.B W H s.heap →
    wpAny X.M A (forIn es true fun c r => if r = true then do let ok ← isTrue c env (eval c env); pure (ForInStep.yield ok) else pure (ForInStep.yield r)) (PB X W s H b) NoE s := by
  have rest : ∀ (es : List Expr) {W : Wd} {s₀ s : Shared}, PB X W s₀ H false false s → wpAny X.M A (forIn es false fun c r => if r = true then do let ok ← isTrue c env (eval c env); pure (ForInStep.yield ok) else pure (ForInStep.yield r)) (PB X W s₀ H false) NoE s := by
    intro es
    induction es with
    | nil => intro W s₀ s p; exact wpAny_pure p
    | cons e es ih => intro W s₀ s p; simp only [List.forIn_cons, Bool.false_eq_true, if_false]; exact wpAny_bind (wpAny_pure (ih p))
  induction h with
  | nil =>
    intro W s ev f S
    simp only [evalIfs, Option.some.injEq] at ev
    subst ev
    exact wpAny_pure ⟨rfl, W, .refl _ _, S, .refl _⟩
  | @cons e ce es ces he hes ih =>
    intro W s ev f S
    simp only [evalIfs] at ev
    simp only [List.forIn_cons, if_true]
    split at ev
    · rename_i v H1 e1
      split at ev
      · rename_i hH
        subst hH
        split at ev
        · rename_i tv
          refine wpAny_bind (wpAny_bind (wpAny_mono (he.test env ρ H1 v H1 true A s W e1 tv hE f hA S) (fun b' s₁ p => ?_) fun _ _ x => x))
          obtain ⟨rfl, W1, t1, S1, q1⟩ := p
          exact wpAny_pure (wpAny_mono (ih ev (f.move t1) S1) (fun _ _ p => p.trans t1 q1) fun _ _ x => x)
        · rename_i htv
          cases hb : b with
          | true => subst hb; exact absurd ev htv
          | false =>
            subst hb
            refine wpAny_bind (wpAny_bind (wpAny_mono (he.test env ρ H1 v H1 false A s W e1 ev hE f hA S) (fun b' s₁ p => ?_) fun _ _ x => x))
            obtain ⟨rfl, W1, t1, S1, q1⟩ := p
            exact wpAny_pure (rest es ⟨rfl, W1, t1, S1, q1⟩)
      · cases ev
    · cases ev
end
end Mine
end

section
set_option autoImplicit false
namespace Mine
open PySem

theorem lookup_mem {β : Type} {l : List (Str × β)} {x : Str} {b : β} (h : l.lookup x = some b) : (x, b) ∈ l := by
  induction l with
  | nil => simp at h
  | cons p l ih =>
    obtain ⟨n, k⟩ := p
    rw [List.lookup_cons] at h
    split at h
    · rename_i e; cases h; rw [eq_of_beq e]; exact List.mem_cons_self
    · exact List.mem_cons_of_mem _ (ih h)

structure CompOk (ns : List Str) (sc csc : Scope) (t : Expr) (ci : It) : Prop where
  kind : csc.kind = .function
  dot : slotOf ns (".0" : Str) = none
  tg : itTg ci t
  nocell : ∀ y ∈ csc.names, y.2 ≠ .cell
  loc : ∀ y ∈ csc.names, y.2 = .local → csc.names.lookup y.1 = some .local
  locT : ∀ x, csc.names.lookup x = some .local → x = (".0" : Str) ∨ x ∈ tgNames t
  fre : ∀ y ∈ csc.names, y.2 = .free → csc.names.lookup y.1 = some .free ∧ (sc.names.lookup y.1 = some .cell ∨ sc.names.lookup y.1 = some .free) ∧ plainName y.1 = true

theorem compOk_of {ns : List Str} {sc csc : Scope} {t : Expr} {ci : It} (h : compOk ns sc csc t ci = true) : CompOk ns sc csc t ci := by
  unfold compOk at h
  simp only [Bool.and_eq_true, List.all_eq_true, beq_iff_eq, Option.isNone_iff_eq_none] at h
  obtain ⟨⟨⟨h1, h2⟩, h3⟩, h4⟩ := h
  refine ⟨h1, h2, ?_, ?_, ?_, ?_, ?_⟩
  · cases ci <;> simp only [itTg] <;> (cases t <;> first | trivial | (exact absurd h3 (by simp [isZipIt, isTupE])))
  · rintro ⟨n, k⟩ hy rfl
    exact absurd (h4 _ hy) (by simp)
  · rintro ⟨n, k⟩ hy rfl
    have := h4 _ hy
    simp only [Bool.and_eq_true, beq_iff_eq] at this
    exact this.1
  · intro x hx
    have := h4 _ (lookup_mem hx)
    simp only [Bool.and_eq_true, beq_iff_eq, Bool.or_eq_true, List.contains_eq_mem, decide_eq_true_eq] at this
    exact this.2
  · rintro ⟨n, k⟩ hy rfl
    have := h4 _ hy
    simp only [Bool.and_eq_true, beq_iff_eq] at this
    refine ⟨this.1, ?_⟩
    have h5 := this.2
    split at h5
    · rename_i e; exact ⟨.inl e, h5⟩
    · rename_i e; exact ⟨.inr e, h5⟩
    · cases h5

theorem closure_go {env : Env} : ∀ (names : List (Str × NameKind)) (cs : List (Str × Addr)), (∀ y ∈ names, y.2 = .free → ∃ c, env.cells.lookup y.1 = some c) → (∀ x c, cs.lookup x = some c → env.cells.lookup x = some c) →
    ∃ cl, (forIn names cs fun (p : Str × NameKind) (r : List (Str × Addr)) => (match p with
      | (name, kind) => if (kind == NameKind.free) = true then do let a ← cellOf env name; pure (ForInStep.yield ((name, a) :: r)) else pure (ForInStep.yield r) : Sem (ForInStep (List (Str × Addr))))) = pure cl ∧
      (∀ x c, cl.lookup x = some c → env.cells.lookup x = some c) ∧ (∀ x, (x, NameKind.free) ∈ names ∨ (∃ c, cs.lookup x = some c) → ∃ c, cl.lookup x = some c)
  | [], cs, _, h => ⟨cs, rfl, h, fun x hx => hx.elim (fun m => absurd m (by simp)) id⟩
  | (n, k) :: names, cs, h1, h2 => by
    by_cases hk : k = .free
    · subst hk
      obtain ⟨c, hc⟩ := h1 (n, .free) List.mem_cons_self rfl
      obtain ⟨cl, e, a, b⟩ := closure_go names ((n, c) :: cs) (fun y hy => h1 y (List.mem_cons_of_mem _ hy)) (fun x c' hx => by
        rw [List.lookup_cons] at hx
        split at hx
        · rename_i ex; cases hx; rw [eq_of_beq ex]; exact hc
        · exact h2 x c' hx)
      refine ⟨cl, ?_, a, fun x hx => b x ?_⟩
      · rw [List.forIn_cons]
        simp only [beq_self_eq_true, if_true, cellOf, hc]
        exact e
      · rcases hx with hx | ⟨c', hc'⟩
        · rcases List.mem_cons.mp hx with q | q
          · cases q; exact .inr ⟨c, by simp⟩
          · exact .inl q
        · right
          rw [List.lookup_cons]
          split
          · exact ⟨_, rfl⟩
          · exact ⟨c', hc'⟩
    · obtain ⟨cl, e, a, b⟩ := closure_go names cs (fun y hy => h1 y (List.mem_cons_of_mem _ hy)) h2
      refine ⟨cl, ?_, a, fun x hx => b x ?_⟩
      · rw [List.forIn_cons]
        have : (k == NameKind.free) = false := by simpa using hk
        simp only [this, Bool.false_eq_true, if_false]
        exact e
      · rcases hx with hx | hx
        · rcases List.mem_cons.mp hx with q | q
          · cases q; exact absurd rfl hk
          · exact .inl q
        · exact .inr hx
theorem closure_of {env : Env} {scope : Scope} (h : ∀ y ∈ scope.names, y.2 = .free → ∃ c, env.cells.lookup y.1 = some c) :
    ∃ cl, closureFor scope env = pure cl ∧ (∀ x c, cl.lookup x = some c → env.cells.lookup x = some c) ∧ ∀ x, (x, NameKind.free) ∈ scope.names → ∃ c, cl.lookup x = some c := by
  obtain ⟨cl, e, a, b⟩ := closure_go scope.names [] h (fun x c hx => by simp at hx)
  refine ⟨cl, ?_, a, fun x hx => b x (.inl hx)⟩
  simp only [closureFor]
  rw [e]
  rfl

theorem lookup_relabel {env : Env} : ∀ {names : List (Str × NameKind)} {x : Str} {k : NameKind}, names.lookup x = some k →
    ∃ k', (names.map fun (n, k) => if (k == NameKind.free && env.scope.kind == .function && env.kindOf n == some .cell) then (n, NameKind.cell) else (n, k)).lookup x = some k' ∧ (k ≠ .free → k' = k) ∧ (k = .free → k' = .free ∨ k' = .cell)
  | [], _, _, h => by simp at h
  | (n, k0) :: r, x, k, h => by
    have ih := @lookup_relabel env r x k
    cases hx : x == n with
    | true =>
      simp only [List.lookup_cons, hx, Option.some.injEq] at h
      subst h
      by_cases hc : (k0 == NameKind.free && env.scope.kind == .function && env.kindOf n == some .cell) = true
      · refine ⟨.cell, ?_, fun hf => ?_, fun _ => .inr rfl⟩
        · show List.lookup x ((if (k0 == NameKind.free && env.scope.kind == .function && env.kindOf n == some .cell) = true then (n, NameKind.cell) else (n, k0)) :: _) = _
          rw [if_pos hc]; simp only [List.lookup_cons, hx]
        · simp only [Bool.and_eq_true, beq_iff_eq] at hc; exact absurd hc.1.1 hf
      · refine ⟨k0, ?_, fun _ => rfl, fun e => .inl e⟩
        show List.lookup x ((if (k0 == NameKind.free && env.scope.kind == .function && env.kindOf n == some .cell) = true then (n, NameKind.cell) else (n, k0)) :: _) = _
        rw [if_neg hc]; simp only [List.lookup_cons, hx]
    | false =>
      simp only [List.lookup_cons, hx] at h
      obtain ⟨k', e, a⟩ := ih h
      refine ⟨k', ?_, a⟩
      show List.lookup x ((if (k0 == NameKind.free && env.scope.kind == .function && env.kindOf n == some .cell) = true then (n, NameKind.cell) else (n, k0)) :: _) = _
      by_cases hc : (k0 == NameKind.free && env.scope.kind == .function && env.kindOf n == some .cell) = true
      · rw [if_pos hc]; simp only [List.lookup_cons, hx]; exact e
      · rw [if_neg hc]; simp only [List.lookup_cons, hx]; exact e

section
variable {X : Cx} {ns : List Str} {sc csc : Scope} {W : Wd} {ρ ρ' : Loc} {env : Env} {t : Expr} {ci : It} {cl : List (Str × Addr)} {C : Addr}

theorem compEnv_ok (hC : CompOk ns sc csc t ci) (hCB : X.B.get? C = none) (hE : EnvOk X sc env) (h1 : ∀ x c, cl.lookup x = some c → env.cells.lookup x = some c) (h2 : ∀ x, (x, NameKind.free) ∈ csc.names → ∃ c, cl.lookup x = some c) :
    EnvOk X csc (compEnvC csc cl C env) where
  kind := hC.kind
  globals := hE.globals
  builtins := hE.builtins
  glob := fun x hx => by
    unfold isGlob at hx
    rw [Bool.and_eq_true] at hx
    have hx1 := hx.1
    split at hx1
    · rename_i e
      obtain ⟨k', e', a, _⟩ := lookup_relabel (env := env) e
      have := a (by simp)
      subst this
      exact e'
    · cases hx1
  inter := by show (csc.kind == .module && _) = false; rw [hC.kind]; rfl
  loc := fun x e => by
    obtain ⟨k', e', a, _⟩ := lookup_relabel (env := env) e
    have := a (by simp)
    subst this
    exact e'
  fre := fun x e => by
    rcases e with e | e
    · exact absurd rfl (hC.nocell _ (lookup_mem e))
    · obtain ⟨k', e', _, b⟩ := lookup_relabel (env := env) e
      rcases b rfl with q | q <;> subst q
      · exact .inr e'
      · exact .inl e'
  cel := fun x e => absurd rfl (hC.nocell _ (lookup_mem e))
  cells := fun x e => by
    rcases e with e | e
    · exact absurd rfl (hC.nocell _ (lookup_mem e))
    · exact h2 x (lookup_mem e)
  inj := fun x y c a b => hE.inj x y c (h1 x c a) (h1 y c b)
  base := by
    rintro b (rfl | ⟨x, hx⟩)
    · exact hCB
    · exact hE.base b (.inr ⟨x, h1 x b hx⟩)

/-- the slots of a target -/
noncomputable def slotsT : T → List Nat
  | .slot i => [i]
  | .tup is => is

/-- what is not bound by the target -/
noncomputable def mask (t : T) (ρ : Loc) : Loc := ρ.mapIdx fun i o => if i ∈ slotsT t then none else o
theorem mask_get {t : T} {ρ : Loc} {j : Nat} : (mask t ρ)[j]? = (ρ[j]?).map fun o => if j ∈ slotsT t then none else o := by
  unfold mask; rw [List.getElem?_mapIdx]
theorem mask_length {t : T} {ρ : Loc} : (mask t ρ).length = ρ.length := by unfold mask; simp

theorem bindSlots_agree : ∀ {is : List Nat} {vs : List V} {ρ₁ ρ₂ ρ' : Loc}, ρ₁.length = ρ₂.length → (∀ j, j ∉ is → ρ₁[j]? = ρ₂[j]?) → bindSlots is vs ρ₁ = some ρ' → bindSlots is vs ρ₂ = some ρ'
  | [], [], ρ₁, ρ₂, ρ', _, h, e => by
    simp only [bindSlots, Option.some.injEq] at e ⊢
    subst e
    exact List.ext_getElem? fun j => (h j (by simp)).symm
  | i :: is, v :: vs, ρ₁, ρ₂, ρ', hl, h, e => by
    simp only [bindSlots] at e ⊢
    split at e
    · rename_i hi
      rw [if_pos (hl ▸ hi)]
      refine bindSlots_agree (by simp [hl]) (fun j hj => ?_) e
      by_cases hij : j = i
      · subst hij; rw [List.getElem?_set_self hi, List.getElem?_set_self (hl ▸ hi)]
      · rw [List.getElem?_set_ne (Ne.symm hij), List.getElem?_set_ne (Ne.symm hij)]
        exact h j (by simp [hij, hj])
    · cases e
  | [], _ :: _, _, _, _, _, _, e => by simp only [bindSlots, reduceCtorEq] at e
  | _ :: _, [], _, _, _, _, _, e => by simp only [bindSlots, reduceCtorEq] at e

theorem bindT_mask {t : T} {v : V} (h : bindT t v ρ = some ρ') : bindT t v (mask t ρ) = some ρ' := by
  have ag : ∀ j, j ∉ slotsT t → ρ[j]? = (mask t ρ)[j]? := fun j hj => by rw [mask_get]; cases ρ[j]? <;> simp [hj]
  cases t with
  | slot i =>
    have := bindSlots_agree (is := [i]) (vs := [v]) (ρ₁ := ρ) (ρ₂ := mask (.slot i) ρ) (ρ' := ρ') mask_length.symm ag
    simp only [bindSlots, bindT] at this h ⊢
    exact this h
  | tup is =>
    simp only [bindT] at h ⊢
    split at h
    · exact bindSlots_agree mask_length.symm ag h
    · cases h

theorem tgNames_slots {tt : T} (ht : trT ns csc t = some tt) {x : Str} (hx : x ∈ tgNames t) : ∃ i, slotOf ns x = some i ∧ i ∈ slotsT tt := by
  cases t <;> simp only [trT, reduceCtorEq] at ht
  · rename_i y p
    rw [Option.map_eq_some_iff] at ht
    obtain ⟨i, hi, rfl⟩ := ht
    simp only [tgNames, List.mem_singleton] at hx
    subst hx
    simp only [tgN] at hi
    split at hi
    · exact ⟨i, hi, by simp [slotsT]⟩
    · cases hi
  · rename_i es k p
    rw [Option.map_eq_some_iff] at ht
    obtain ⟨is, his, rfl⟩ := ht
    simp only [tgNames] at hx
    show ∃ i, slotOf ns x = some i ∧ i ∈ is
    induction es generalizing is with
    | nil => simp at hx
    | cons e es ih =>
      simp only [mapO] at his
      split at his
      · rename_i i hi
        split at his
        · rename_i is' his'
          cases his
          rw [List.flatMap_cons, List.mem_append] at hx
          rcases hx with hx | hx
          · cases e <;> simp only [tgN, reduceCtorEq] at hi
            simp only [nameOf, List.mem_singleton] at hx
            subst hx
            split at hi
            · exact ⟨i, hi, by simp⟩
            · cases hi
          · obtain ⟨j, h1, h2⟩ := ih hx is' his'
            exact ⟨j, h1, List.mem_cons_of_mem _ h2⟩
        · cases his
      · cases his

/-- the frame of a comprehension, ahead of the binding -/
theorem compFrame (hC : CompOk ns sc csc t ci) (hCB : X.B.get? C = none) {tt : T} (ht : trT ns csc t = some tt) (hE : EnvOk X sc env) (h1 : ∀ x c, cl.lookup x = some c → env.cells.lookup x = some c) (h2 : ∀ x, (x, NameKind.free) ∈ csc.names → ∃ c, cl.lookup x = some c)
    {h : Heap} (f : FR W env ns sc ρ h) (hn : ∃ m, h.Ns C m) (hCf : C ∉ W.φ) (hCz : W.σ C = none) : FR W (compEnvC csc cl C env) ns csc (mask tt ρ) h where
  vars := fun x i v hx hi hv => by
    rw [mask_get, Option.map_eq_some_iff] at hv
    obtain ⟨o, ho, hv⟩ := hv
    split at hv
    · cases hv
    · rename_i hni
      subst hv
      unfold isLoc at hx
      rw [Bool.and_eq_true] at hx
      have hx1 := hx.1
      split at hx1
      · rename_i e
        rcases hC.locT x e with q | q
        · subst q; rw [hC.dot] at hi; cases hi
        · obtain ⟨j, a, b⟩ := tgNames_slots ht q
          rw [a] at hi; cases hi; exact absurd b hni
      · rename_i e; exact absurd rfl (hC.nocell _ (lookup_mem e))
      · rename_i e
        obtain ⟨_, k, hp⟩ := hC.fre _ (lookup_mem e) rfl
        have hl : isLoc sc x = true := by
          unfold isLoc
          rw [Bool.and_eq_true]
          refine ⟨?_, hp⟩
          rcases k with k | k <;> rw [k]
        obtain ⟨w, r, b⟩ := f.vars x i v hl hi ho
        refine ⟨w, r, ?_⟩
        obtain ⟨c', hc'⟩ := h2 x (lookup_mem e)
        rcases b with ⟨kl, _⟩ | ⟨_, c, hc, hv⟩
        · have := hE.fre x k
          rcases this with q | q <;> rw [q] at kl <;> cases kl
        · refine .inr ⟨?_, c', hc', ?_⟩
          · exact (compEnv_ok (C := C) hC hCB hE h1 h2).fre x (.inr e)
          · have := h1 x c' hc'; rw [hc] at this; cases this; exact hv
      · cases hx1
  out := by
    rintro b (rfl | ⟨x, hx⟩)
    · exact hCf
    · exact f.out b (.inr ⟨x, h1 x b hx⟩)
  alive := by
    rintro b (rfl | ⟨x, hx⟩)
    · obtain ⟨m, o, _, _, e, _⟩ := hn; exact fun q => by rw [q] at e; cases e
    · exact f.alive b (.inr ⟨x, h1 x b hx⟩)
  nsp := hn
  cell := fun x c hx => f.cell x c (h1 x c hx)
  apart := by
    rintro b (rfl | ⟨x, hx⟩)
    · exact hCz
    · exact f.apart b (.inr ⟨x, h1 x b hx⟩)
end
end Mine
end

section
set_option autoImplicit false
namespace Mine
open PySem

theorem FR.moveP {P : Addr → Prop} {W W' : Wd} {env : Env} {ns : List Str} {sc : Scope} {ρ : Loc} {h h' : Heap} (f : FR W env ns sc ρ h) (t : TrP P W W' h h') (hp : ∀ b, Own env b → ¬ P b) : FR W' env ns sc ρ h' where
  vars := fun x i v a b c => by
    obtain ⟨w, y, z⟩ := f.vars x i v a b c
    exact ⟨w, y.mono t.le, z.move fun b o ob e => t.keep b o e (f.out b ob) (hp b ob)⟩
  out := fun b ob m => (t.nf b m).elim (f.out b ob) fun q => q.elim (f.alive b ob) (hp b ob)
  alive := fun b ob => t.alive b (f.alive b ob) (hp b ob)
  nsp := by
    obtain ⟨m, o, es, ep, e, r⟩ := f.nsp
    exact ⟨m, o, es, ep, t.keep _ _ e (f.out _ (.inl rfl)) (hp _ (.inl rfl)), r⟩
  cell := fun x c e => by
    obtain ⟨v, o, g, d⟩ := f.cell x c e
    exact ⟨v, o, t.keep _ _ g (f.out _ (.inr ⟨x, e⟩)) (hp _ (.inr ⟨x, e⟩)), d⟩
  apart := fun b ob => by
    cases q : W'.σ b with
    | none => rfl
    | some o => exact (t.nz b o q).elim (fun e => by rw [f.apart b ob] at e; cases e) fun e => e.elim (fun e => absurd e (f.alive b ob)) fun e => absurd e (hp b ob)

/-- what stands when a comprehension's loop is through -/
inductive PC (X : Cx) (W : Wd) (s : Shared) (H' : Hp) (o : O) (D C : Addr) (s' : Shared) : Prop
  | mk (W' : Wd) (t : Tr W W' s.heap s'.heap) (S : SR X.B W' H' s'.heap) (x : OR W' s'.heap o D) (z : W'.σ D = none) (f : D ∉ W'.φ) (n : s.heap.get? D = none) (nC : s.heap.get? C = none) (fC : Free X W' C)
    (hm : ∃ m, s'.heap.Ns C m) (ne : C ≠ D) (q : Rest s s') : PC X W s H' o D C s'

theorem compL_cons {f : V → Option (Option V)} {x : V} {xs ws : List V} (h : compL f (x :: xs) = some ws) : ∃ r rs, f x = some r ∧ compL f xs = some rs ∧ ws = (match r with | none => rs | some v => v :: rs) := by
  simp only [compL] at h
  split at h
  · cases h
  · rename_i r hr
    split at h
    · cases h
    · rename_i rs hrs
      cases h
      exact ⟨r, rs, hr, hrs, rfl⟩

section
variable {X : Cx} {c : Ctx} {k : Nat} {ns : List Str} {sc csc : Scope} {W W' : Wd} {s s' : Shared} {H H' : Hp} {ρ : Loc} {A : Around} {env : Env}

structure CI (X : Cx) (A : Around) (Z : Iter X A) (W2 : Wd) (s₂ : Shared) (H1 : Hp) (env : Env) (ns : List Str) (sc : Scope) (ρ : Loc) (D C : Addr) (vs ds ws rest : List V) (F : V → Option (Option V)) (s' : Shared) (Wc : Wd) : Prop where
  cmp : compL F rest = some ws
  all : vs = ds ++ ws
  tr : TrP (fun b => b ∈ Z.own ∨ b = D ∨ b = C) W2 Wc s₂.heap s'.heap
  S : SR X.B Wc H1 s'.heap
  q : Rest s₂ s'
  st : Z.St Wc H1 rest s'.heap
  own : ∀ b ∈ Z.own, Free X Wc b ∧ s'.heap.get? b ≠ none
  acc : ∃ us n, s'.heap.get? D = some (sObj "list" us n) ∧ RVs Wc ds us.toList
  fD : Free X Wc D
  fC : Free X Wc C
  nC : ∃ m, s'.heap.Ns C m
  fr : FR Wc env ns sc ρ s'.heap

theorem comp_core {elt target iter : Expr} {ifs : List Expr} {pos p : Pos} {celt : E} {ct : T} {cit : It} {cifs : List E} {o : O} (hC : CompOk ns sc csc target cit) (ht : trT ns csc target = some ct) (hit : SimIt X c k ns sc iter cit)
    (hifs : SimEs X c k ns csc ifs cifs) (helt : SimE X c k ns csc elt celt) {use : Option (Value → Sem Unit)} {Q : Value → Shared → Prop} (ev : evalL c (.comp ct cit cifs celt) ρ H = some (o, H')) (hE : EnvOk X sc env) (f : FR W env ns sc ρ s.heap) (hA : AOk k A) (S : SR X.B W H s.heap)
    (hQ : ∀ D C s', PC X W s H' o D C s' → compPost X.M A NoE use Q (.ref D) C (.ok .next) s') :
    wpAny X.M A (comprehension (.ListComp elt [⟨target, iter, ifs, 0⟩] csc pos) csc env p (newList []) false (eval iter env) use) Q NoE s := by
  simp only [evalL] at ev
  split at ev
  · rename_i xs G H1 e1
    rw [Option.bind_eq_some_iff] at ev
    obtain ⟨vs, ecl, ev⟩ := ev
    split at ev
    case isFalse => cases ev
    rename_i hvs
    cases ev
    obtain ⟨cl, hcl, h1, h2⟩ := closure_of (env := env) (scope := csc) fun y hy hf => hE.cells y.1 (hC.fre y hy hf).2.1
    refine wpAny_comprehension_free rfl (hit.fold env) hcl hC.kind hC.loc (wpAny_mono (hit.run env ρ H xs G _ A s W e1 hE f hA S) (fun x s₁ h₁ => wpAny_mono h₁ (fun it s₂ p => ?_) fun _ _ x => x) fun _ _ x => x)
    obtain ⟨Z, W2, rfl, t2, S2, q2, st2, own2, hG, htg⟩ := p
    refine wpAny_newObj_type (wpAny_newFunctionEnv hC.nocell (by intro y hy; simp at hy) (fun h₁ hns₁ hsb₁ => ?_) hC.kind)
    dsimp only at hns₁ hsb₁ ⊢
    generalize hH2 : s₂.heap.push { cls := .type "list", dict := none, data := .seq ([] : List Value).toArray } = H2 at hns₁ hsb₁ ⊢
    have hCs : H2.objs.size = s₂.heap.objs.size + 1 := by rw [← hH2, Heap.size_push]
    have hDC : s₂.heap.objs.size ≠ H2.objs.size := by rw [hCs]; exact Nat.ne_of_lt (Nat.lt_succ_self _)
    have hD0 := get_none_size s₂.heap
    have hC0 : s₂.heap.get? H2.objs.size = none := by
      cases q : s₂.heap.get? H2.objs.size with
      | none => rfl
      | some o => have := Heap.lt_size q; rw [hCs] at this; exact absurd this (Nat.not_lt.mpr (Nat.le_succ _))
    have old : ∀ b o, s₂.heap.get? b = some o → h₁.get? b = some o := fun b o e => hsb₁.extBut b o (fun q => by rw [q, hC0] at e; cases e) (Heap.get?_push_of_some _ (hH2 ▸ Heap.get?_push_of_some _ e))
    generalize hDe : s₂.heap.objs.size = D at *
    generalize hCe : H2.objs.size = C at *
    have hacc : h₁.get? D = some (sObj "list" #[] 0) := hsb₁.extBut _ _ hDC (Heap.get?_push_of_some _ (by rw [← hH2, ← hDe]; exact Heap.get?_push_size _ rfl))
    have fD : Free X W2 D := Free.of_none S2 hD0
    have fC : Free X W2 C := Free.of_none S2 hC0
    have hDo : D ∉ Z.own := fun m => (own2 D m).2.1 hD0
    have hCo : C ∉ Z.own := fun m => (own2 C m).2.1 hC0
    have f2 := f.move t2
    have envP : ∀ b, Own env b → ¬ (b ∈ Z.own ∨ b = D ∨ b = C) := by
      rintro b ob (m | rfl | rfl)
      · exact f.alive b ob (own2 b m).2.2
      · exact f2.alive b ob hD0
      · exact f2.alive b ob hC0
    have newP : ∀ b, (b ∈ Z.own ∨ b = D ∨ b = C) → s.heap.get? b = none := by
      rintro b (m | rfl | rfl)
      · exact (own2 b m).2.2
      · exact Classical.byContradiction fun q => t2.alive _ q hD0
      · exact Classical.byContradiction fun q => t2.alive _ q hC0
    generalize hF : (fun x => match bindT ct x ρ with
        | some ρ' => match evalIfs c cifs ρ' H' with
          | some true => match evalE c celt ρ' H' with
            | some (v, H2) => if H2 = H' then some (some v) else none
            | none => none
          | some false => some none
          | none => none
        | none => none) = F at ecl
    have loop : ∀ s₃ : Shared, s₃ = { s₂ with heap := h₁, toks := s₂.toks + ([] : List (Str × Value)).length } →
        codeAny X.M A (.compLoop (.ListComp elt [⟨target, iter, ifs, 0⟩] csc pos) 0 (.ref Z.I) (.ref D) (compEnvC csc cl C env)) (compPost X.M A NoE use Q (.ref D) C) s₃ := by
      rintro s₃ rfl
      refine compLoop_any (fun n s' => ∃ ds ws rest Wc, n = rest.length ∧ CI X A Z W2 s₂ H' env ns sc ρ D C vs ds ws rest F s' Wc) (fun n s' hI => ?_) xs.length ?_
      · obtain ⟨ds, ws, rest, Wc, rfl, I⟩ := hI
        cases rest with
        | nil =>
          refine wpAny_mono (Z.done s' Wc H' I.S I.st I.own) (fun r s₄ p => ?_) fun _ _ x => x
          obtain ⟨rfl, t4, S4, q4⟩ := p
          have hws : ws = [] := by have := I.cmp; simp only [compL, Option.some.injEq] at this; exact this.symm
          obtain ⟨us, n, ga, ra⟩ := I.acc
          refine hQ D C s₄ ⟨Wc, ?_, S4, ⟨us, n, t4.keep D _ ga I.fD.2.2 hDo, ?_⟩, I.fD.2.1, I.fD.2.2, newP D (.inr (.inl rfl)), newP C (.inr (.inr rfl)), I.fC, ?_, Ne.symm hDC, q2.trans (I.q.trans q4)⟩
          · exact t2.fresh (I.tr.trans (t4.mono fun b m => .inl m)) newP
          · rw [I.all, hws, List.append_nil]; exact ra
          · obtain ⟨m, o, es, ep, e, r⟩ := I.nC
            exact ⟨m, o, es, ep, t4.keep C _ e I.fC.2.2 hCo, r⟩
        | cons x rest =>
          obtain ⟨r, rs, hr, hrs, hws⟩ := compL_cons I.cmp
          refine wpAny_mono (Z.item target s' Wc H' x rest (htg target hC.tg) I.S I.st I.own) (fun r' s₄ p => ?_) fun _ _ x => x
          obtain ⟨w, rfl, p⟩ := p
          refine wpAny_mono p (fun _ s₅ p => ?_) fun _ _ x => x
          obtain ⟨W5, t5, S5, r5, q5, st5, own5⟩ := p
          rw [← hF] at hr
          dsimp only at hr
          split at hr
          case h_2 => cases hr
          rename_i ρ' hb
          have fD5 : Free X W5 D := I.fD.move t5 (by obtain ⟨us, n, ga, _⟩ := I.acc; rw [ga]; simp) hDo
          have fC5 : Free X W5 C := I.fC.move t5 (by obtain ⟨m, o, es, ep, e, _⟩ := I.nC; rw [e]; simp) hCo
          have nC5 : ∃ m, s₅.heap.Ns C m := by
            obtain ⟨m, o, es, ep, e, r⟩ := I.nC
            exact ⟨m, o, es, ep, t5.keep C _ e I.fC.2.2 hCo, r⟩
          have fr5 : FR W5 env ns sc ρ s₅.heap := I.fr.moveP t5 fun b ob m => envP b ob (.inl m)
          have hE5 : EnvOk X csc (compEnvC csc cl C env) := compEnv_ok hC fC.1 hE h1 h2
          have frc : FR W5 (compEnvC csc cl C env) ns csc (mask ct ρ) s₅.heap := compFrame hC fC.1 ht hE h1 h2 fr5 nC5 fC5.2.2 fC5.2.1
          refine wpAny_mono (sim_assign hA.handled hE5 frc S5 ht (bindT_mask hb) r5) (fun _ s₆ p => ?_) fun _ _ x => x
          obtain ⟨t6, S6, fr6, q6⟩ := p
          have t6' : TrP (· = C) W5 W5 s₅.heap s₆.heap := t6.mono fun b m => m.elim id fun ⟨x, e, _⟩ => absurd rfl (hC.nocell _ (lookup_mem e))
          have nC6 : ∃ m, s₆.heap.Ns C m := fr6.nsp
          have own6 : ∀ b ∈ Z.own, s₆.heap.get? b ≠ none := fun b m => t6'.alive b (own5 b m).2 fun e => hCo (e ▸ m)
          have keep6 : ∀ b ∈ Z.own, ∀ o, s₅.heap.get? b = some o → s₆.heap.get? b = some o := fun b m o e => t6'.keep b o e (own5 b m).1.2.2 fun e => hCo (e ▸ m)
          -- what an evaluation behind leaves
          have fin : ∀ (s₇ : Shared) (W7 : Wd), Tr W5 W7 s₆.heap s₇.heap → SR X.B W7 H' s₇.heap → Rest s₆ s₇ → ∀ vs' rs', compL F rest = some rs' → vs' = ds ++ rs' → CI X A Z W2 s₂ H' env ns sc ρ D C vs' ds rs' rest F s₇ W7 := by
            intro s₇ W7 t7 S7 q7 vs' rs' hrs' hvs'
            have tt : TrP (fun b => b ∈ Z.own ∨ b = C) Wc W7 s'.heap s₇.heap := ((t5.mono fun b m => .inl m).trans (t6'.mono fun b m => .inr m)).trans t7.toP
            have hDn : ¬ (D ∈ Z.own ∨ D = C) := fun q => q.elim hDo hDC
            refine ⟨hrs', hvs', I.tr.trans (tt.mono fun b m => m.imp_right .inr), S7, I.q.trans (q5.trans (q6.trans q7)), ?_, ?_, ?_, ?_, ?_, ?_, ?_⟩
            · exact Z.move W5 W7 H' H' rest s₅.heap s₇.heap st5 t7.le (fun _ _ => rfl) fun b m o e => t7.keep b o (keep6 b m o e) (own5 b m).1.2.2
            · exact fun b m => ⟨(own5 b m).1.move (t7.toP (P := fun _ => False)) (own6 b m) id, t7.alive b (own6 b m)⟩
            · obtain ⟨us, n, ga, ra⟩ := I.acc
              exact ⟨us, n, tt.keep D _ ga I.fD.2.2 hDn, ra.mono tt.le⟩
            · exact I.fD.move tt (by obtain ⟨us, n, ga, _⟩ := I.acc; rw [ga]; simp) hDn
            · exact fC5.move (t7.toP (P := fun _ => False)) (by obtain ⟨m, o, es, ep, e, _⟩ := nC6; rw [e]; simp) id
            · obtain ⟨m, o, es, ep, e, r⟩ := nC6
              exact ⟨m, o, es, ep, t7.keep C _ e fC5.2.2, r⟩
            · exact I.fr.moveP tt fun b ob m => envP b ob (m.imp_right .inr)
          split at hr
          · rename_i hif
            refine wpAny_mono (sim_ifs hifs hE5 hA hif fr6 S6) (fun b s₇ p => ?_) fun _ _ x => x
            obtain ⟨rfl, W7, t7, S7, q7⟩ := p
            rw [if_pos rfl]
            split at hr
            · rename_i v H2' e2
              split at hr
              · rename_i hH
                subst hH
                cases hr
                refine wpAny_mono (helt.val _ ρ' H2' v H2' A s₇ W7 e2 hE5 (fr6.move t7) hA S7) (fun wv s₈ p => ?_) fun _ _ x => x
                obtain ⟨W8, t8, S8, r8, q8⟩ := p
                have J := fin s₈ W8 (t7.trans t8) S8 (q7.trans q8) _ rs hrs rfl
                obtain ⟨us, n, ga, ra⟩ := J.acc
                have hlen : us.size ≤ sizeLine := by
                  have h3 : ds.length = us.size := ra.length.trans (Array.length_toList ..)
                  have h4 : ds.length ≤ vs.length := by rw [I.all, List.length_append]; exact Nat.le_add_right _ _
                  unfold lid at hvs; unfold sizeLine; omega
                refine wpAny_list_append_plain (hl := ⟨n, ga⟩) (fun h' hpl hs => ?_) hlen
                obtain ⟨n', hpl⟩ := hpl
                have kp : ∀ b o, b ≠ D → s₈.heap.get? b = some o → h'.get? b = some o := fun b o nb e => (hs.2 b nb).trans e
                refine ⟨rest.length, Nat.lt_succ_self _, ds ++ [v], rs, rest, W8, rfl, hrs, ?_, ?_, ?_, ⟨J.q.gens, J.q.drawn, J.q.os⟩, ?_, ?_, ⟨_, n', hpl, ?_⟩, J.fD, J.fC, ?_, ?_⟩
                · rw [I.all, hws, List.append_assoc]; rfl
                · exact J.tr.trans (TrP.ext (.inr (.inl rfl)) hs.extBut)
                · exact J.S.free (P := fun b => b = D) (fun b e => e ▸ J.fD) fun b o nb e => kp b o nb e
                · exact Z.move W8 W8 H2' H2' rest s₈.heap h' J.st (.refl _) (fun _ _ => rfl) fun b m o e => kp b o (fun q => hDo (q ▸ m)) e
                · exact fun b m => ⟨(J.own b m).1, fun q => (J.own b m).2 ((hs.2 b (fun q => hDo (q ▸ m))).symm.trans q)⟩
                · rw [Array.toList_push]; exact ra.snoc r8
                · obtain ⟨m, o, es, ep, e, r⟩ := J.nC
                  exact ⟨m, o, es, ep, kp C o (Ne.symm hDC) e, r⟩
                · exact J.fr.moveP (P := fun b => b = D) (TrP.ext rfl hs.extBut) fun b ob m => envP b ob (.inr (.inl m))
              · cases hr
            · cases hr
          · rename_i hif
            cases hr
            refine wpAny_mono (sim_ifs hifs hE5 hA hif fr6 S6) (fun b s₇ p => ?_) fun _ _ x => x
            obtain ⟨rfl, W7, t7, S7, q7⟩ := p
            rw [if_neg (by simp)]
            have hws' : ws = rs := hws
            exact ⟨rest.length, Nat.lt_succ_self _, ds, rs, rest, W7, rfl, fin s₇ W7 t7 S7 q7 _ rs hrs (hws' ▸ I.all)⟩
          · cases hr
      · refine ⟨[], vs, xs, W2, rfl, ecl, rfl, (Tr.grow old).toP, S2.grow old, ⟨rfl, rfl, rfl⟩, ?_, ?_, ⟨#[], 0, hacc, by simp only [RVs]⟩, fD, fC, ⟨_, hns₁⟩, f2.move (Tr.grow old)⟩
        · exact Z.move W2 W2 H' H' xs s₂.heap h₁ st2 (.refl _) (fun _ _ => rfl) fun b m o e => old b o e
        · exact fun b m => ⟨(own2 b m).1, (Tr.grow (W := W2) old).alive b (own2 b m).2.1⟩
    exact codeAny_compStart_list (loop _ rfl) (wpAny_mono (Z.self _ W2 H' xs _ (Z.move W2 W2 H' H' xs s₂.heap h₁ st2 (.refl _) (fun _ _ => rfl) fun b m o e => old b o e) (loop _ rfl)) (fun _ _ x => x) fun _ _ x => x.elim)
  · cases ev
end
end Mine
end

section
set_option autoImplicit false
namespace Mine
open PySem

/-- behind a statement -/
inductive PSt (X : Cx) (W : Wd) (s : Shared) (H' : Hp) (env : Env) (ns : List Str) (sc : Scope) (fl : Fl) (ρ' : Loc) (fl' : Flow) (s' : Shared) : Prop
  | mk (W' : Wd) (t : TrP (OwnW sc env) W W' s.heap s'.heap) (S : SR X.B W' H' s'.heap) (q : Rest s s') (m : match fl with
    | .next => fl' = .next ∧ FR W' env ns sc ρ' s'.heap
    | .ret v => ∃ w, fl' = .ret w ∧ RV W' v w) : PSt X W s H' env ns sc fl ρ' fl' s'

section
variable (X : Cx) (c : Ctx) (k : Nat) (ns : List Str) (sc : Scope)
noncomputable def SimS (st : Stmt) (cs : S) : Prop := ∀ (env : Env) (ρ : Loc) (H : Hp) (fl : Fl) (ρ' : Loc) (H' : Hp) (A : Around) (s : Shared) (W : Wd), evalS c cs ρ H = some (fl, ρ', H') → EnvOk X sc env → FR W env ns sc ρ s.heap → AOk k A → SR X.B W H s.heap →
  wpAny X.M A (exec st env) (PSt X W s H' env ns sc fl ρ') NoE s
noncomputable def SimSs (st : List Stmt) (cs : List S) : Prop := ∀ (env : Env) (ρ : Loc) (H : Hp) (fl : Fl) (ρ' : Loc) (H' : Hp) (A : Around) (s : Shared) (W : Wd), evalSs c cs ρ H = some (fl, ρ', H') → EnvOk X sc env → FR W env ns sc ρ s.heap → AOk k A → SR X.B W H s.heap →
  wpAny X.M A (execs st env) (PSt X W s H' env ns sc fl ρ') NoE s
end

section
variable {X : Cx} {c : Ctx} {k : Nat} {ns : List Str} {sc csc : Scope} {W W' : Wd} {s s' : Shared} {H H' : Hp} {ρ ρ' : Loc} {A : Around} {env : Env} {v : V} {w : Value} {fl : Fl} {fl' : Flow}

theorem PSt.trans {s'' : Shared} (t : TrP (OwnW sc env) W W' s.heap s'.heap) (q : Rest s s') (p : PSt X W' s' H' env ns sc fl ρ' fl' s'') : PSt X W s H' env ns sc fl ρ' fl' s'' :=
  let ⟨W2, t2, S2, q2, m⟩ := p; ⟨W2, t.trans t2, S2, q.trans q2, m⟩

theorem simL_comp {elt target iter : Expr} {ifs : List Expr} {pos : Pos} {celt : E} {ct : T} {cit : It} {cifs : List E} (hC : CompOk ns sc csc target cit) (ht : trT ns csc target = some ct) (hit : SimIt X c k ns sc iter cit)
    (hifs : SimEs X c k ns csc ifs cifs) (helt : SimE X c k ns csc elt celt) : SimL X c k ns sc (.ListComp elt [⟨target, iter, ifs, 0⟩] csc pos) (.comp ct cit cifs celt) := by
  intro env ρ H o H' A s W ev hE f hA S
  rw [eval_ListComp]
  refine comp_core hC ht hit hifs helt (use := none) ev hE f hA S fun D C s' pc => ?_
  obtain ⟨W', t, S', oD, zD, nD, hD, hC', fC, ⟨m, hm⟩, hne, q⟩ := pc
  refine ⟨m, hm, fun h' hs => ⟨W', D, rfl, t.fresh (TrP.ext (P := fun b => b = C) rfl hs.extBut) (fun b e => e ▸ hC'), S'.free (P := fun b => b = C) (fun b e => e ▸ fC) fun b o nb e => (hs.2 b nb).trans e, ?_, zD, nD, hD, ⟨q.gens, q.drawn, q.os⟩⟩⟩
  exact oD.move (.refl _) (hs.2 D (Ne.symm hne))

theorem simS_assign {e : Expr} {ce : E} (h : SimV X c k ns sc e ce) {x : Str} {px pos : Pos} {i : Nat} (hi : tgN ns sc (.Name x px) = some i) (hsw : ∀ env, swapsWith e (some (.Name x px)) pos.line env = pure false) : SimS X c k ns sc (.Assign [.Name x px] e pos) (.assign (.slot i) ce) := by
  intro env ρ H fl ρ' H' A s W ev hE f hA S
  simp only [evalS] at ev
  split at ev
  · rename_i v H1 e1
    rw [Option.map_eq_some_iff] at ev
    obtain ⟨ρ1, hb, ev⟩ := ev
    cases ev
    refine wpAny_Assign_Name (wpAny_mono (h env ρ H v _ A s W e1 hE f hA S) (fun w s₁ p => ?_) fun _ _ x => x) (hsw env)
    obtain ⟨W1, t1, S1, r1, q1⟩ := p
    simp only [tgN] at hi
    split at hi
    · rename_i hx
      simp only [bindT] at hb
      split at hb
      · rename_i hlt
        cases hb
        refine wpAny_mono (sim_store hE (f.move t1) S1 hx hi r1 hlt) (fun _ s₂ p => ?_) fun _ _ x => x
        obtain ⟨t2, S2, f2, q2⟩ := p
        exact ⟨W1, t1.toP.trans t2, S2, q1.trans q2, rfl, f2⟩
      · cases hb
    · cases hi
  · cases ev

theorem made_freeze {D : Addr} {xs : List V} (t : Tr W W' s.heap s'.heap) (S : SR X.B W' H' s'.heap) (oD : OR W' s'.heap (.list xs) D) (zD : W'.σ D = none) (nD : D ∉ W'.φ) (hD : s.heap.get? D = none) :
    ∃ W1, Tr W W1 s.heap s'.heap ∧ SR X.B W1 H' s'.heap ∧ RV W1 (.lst xs) (.ref D) ∧ ∀ b, b ≠ D → Free X W' b → Free X W1 b := by
  obtain ⟨us, n, g, r⟩ := oD
  refine ⟨W'.freeze D (sObj "list" us n), t.freeze zD hD, S.freeze g zD nD, ?_, fun b nb fb => ⟨fb.1, ?_, fb.2.2⟩⟩
  · simp only [RV]
    exact ⟨D, us, n, rfl, Wd.freeze_self, r.mono (Wd.le_freeze zD)⟩
  · show (if b = D then _ else W'.σ b) = none
    rw [if_neg nb]; exact fb.2.1
theorem made_box {D : Addr} {o : O} (S₀ : SR X.B W H s.heap) (t : Tr W W' s.heap s'.heap) (S : SR X.B W' H' s'.heap) (oD : OR W' s'.heap o D) (zD : W'.σ D = none) (nD : D ∉ W'.φ) (hD : s.heap.get? D = none) :
    ∃ W1, Tr W W1 s.heap s'.heap ∧ SR X.B W1 (H' ++ [o]) s'.heap ∧ RV W1 (.ref H'.length) (.ref D) ∧ ∀ b, b ≠ D → Free X W' b → Free X W1 b := by
  refine ⟨W'.box D, t.box hD, S.box oD zD nD (Free.of_none S₀ hD).1, ?_, fun b nb fb => ⟨fb.1, fb.2.1, fun m => ?_⟩⟩
  · simp only [RV]
    refine ⟨D, rfl, ?_⟩
    show (W'.φ ++ [D])[H'.length]? = some D
    rw [S.len, List.getElem?_append_right (Nat.le_refl _), Nat.sub_self]; rfl
  · rcases List.mem_append.mp m with q | q
    · exact fb.2.2 q
    · exact nb (List.mem_singleton.mp q)

/-- a comprehension that is bound to a name -/
theorem simS_assign_comp {bx : Bool} {elt target iter : Expr} {ifs : List Expr} {pos p : Pos} {celt : E} {ct : T} {cit : It} {cifs : List E} (hC : CompOk ns sc csc target cit) (ht : trT ns csc target = some ct) (hit : SimIt X c k ns sc iter cit)
    (hifs : SimEs X c k ns csc ifs cifs) (helt : SimE X c k ns csc elt celt) (hv : SimV X c k ns sc (.ListComp elt [⟨target, iter, ifs, 0⟩] csc p) (if bx then .box (.comp ct cit cifs celt) else .frz (.comp ct cit cifs celt)))
    {x : Str} {px : Pos} {i : Nat} (hi : tgN ns sc (.Name x px) = some i) : SimS X c k ns sc (.Assign [.Name x px] (.ListComp elt [⟨target, iter, ifs, 0⟩] csc p) pos) (.assign (.slot i) (if bx then .box (.comp ct cit cifs celt) else .frz (.comp ct cit cifs celt))) := by
  intro env ρ H fl ρ' H' A s W ev hE f hA S
  have ev0 := ev
  simp only [evalS] at ev
  split at ev
  · rename_i v H1 e1
    rw [Option.map_eq_some_iff] at ev
    obtain ⟨ρ1, hb, ev⟩ := ev
    cases ev
    have hx0 := hi
    simp only [tgN] at hi
    split at hi
    case isFalse => cases hi
    rename_i hx
    simp only [bindT] at hb
    split at hb
    case isFalse => cases hb
    rename_i hlt
    cases hb
    have key : ∃ b, swapsWith (.ListComp elt [⟨target, iter, ifs, 0⟩] csc p) (some (.Name x px)) pos.line env = pure b := ⟨_, rfl⟩
    obtain ⟨b, hb⟩ := key
    cases b with
    | false =>
      refine wpAny_Assign_Name (wpAny_mono (hv env ρ H v _ A s W e1 hE f hA S) (fun w s₁ p => ?_) fun _ _ x => x) hb
      obtain ⟨W1, t1, S1, r1, q1⟩ := p
      refine wpAny_mono (sim_store hE (f.move t1) S1 hx hi r1 hlt) (fun _ s₂ p => ?_) fun _ _ x => x
      obtain ⟨t2, S2, f2, q2⟩ := p
      exact ⟨W1, t1.toP.trans t2, S2, q1.trans q2, rfl, f2⟩
    | true =>
      rw [exec_Assign_Name_used _ _ _ _ hb]
      refine wpAny_bind (wpAny_standAt (wpAny_bind ?_))
      show wpAny _ A (do let _ ← comprehension (.ListComp elt [⟨target, iter, ifs, 0⟩] csc p) csc env _ (newList []) false (eval iter env) (some (assign (.Name x px) env))) _ _ s
      have hl : ∃ o H1, evalL c (.comp ct cit cifs celt) ρ H = some (o, H1) ∧ ∀ (W' : Wd) (D : Addr) (s' : Shared), Tr W W' s.heap s'.heap → SR X.B W' H1 s'.heap → OR W' s'.heap o D → W'.σ D = none → D ∉ W'.φ → s.heap.get? D = none → ∃ W1, Tr W W1 s.heap s'.heap ∧ SR X.B W1 H' s'.heap ∧ RV W1 v (.ref D) ∧ ∀ b, b ≠ D → Free X W' b → Free X W1 b := by
        cases bx with
        | false =>
          simp only [Bool.false_eq_true, if_false, evalE] at e1
          split at e1
          · rename_i o H1 e2
            rw [Option.map_eq_some_iff] at e1
            obtain ⟨v', e3, e4⟩ := e1
            cases e4
            refine ⟨o, H', e2, fun W' D s' h1 h2 h3 h4 h5 h6 => ?_⟩
            cases o with
            | list xs => simp only [frzO, Option.some.injEq] at e3; subst e3; exact made_freeze h1 h2 h3 h4 h5 h6
          · cases e1
        | true =>
          simp only [if_true, evalE] at e1
          split at e1
          · rename_i o H1 e2
            cases e1
            exact ⟨o, H1, e2, fun W' D s' h1 h2 h3 h4 h5 h6 => made_box S h1 h2 h3 h4 h5 h6⟩
          · cases e1
      obtain ⟨o, H1, e2, hpv⟩ := hl
      refine wpAny_bind (wpAny_mono (comp_core hC ht hit hifs helt (use := some (assign (.Name x px) env)) (Q := fun _ s' => PSt X W s H' env ns sc .next (ρ.set i (some v)) .next s') e2 hE f hA S fun D C s' pc => ?_) (fun _ s' hq => wpAny_pure (wpAny_pure hq)) fun _ _ e => e)
      obtain ⟨W', t, S', oD, zD, nD, hD, hC', fC, ⟨m, hm⟩, hne, q⟩ := pc
      obtain ⟨W1, t1, S1, r1, hfr⟩ := hpv W' D s' t S' oD zD nD hD
      have f1 := f.move t1
      have hCo : ¬ Own env C := fun o => f.alive C o hC'
      have fC1 := hfr C hne fC
      show wpAny X.M A (assign (.Name x px) env (.ref D)) _ NoE s'
      refine wpAny_assign_Name (wpAny_mono (sim_store hE f1 S1 hx hi r1 hlt) (fun _ s₂ p => ?_) fun _ _ x => x)
      obtain ⟨t2, S2, f2, q2⟩ := p
      have hCw : ¬ OwnW sc env C := fun o => hCo o.own
      refine ⟨m, ?_, fun h' hs => ⟨W1, ?_, ?_, ?_, rfl, ?_⟩⟩
      · obtain ⟨o, es, ep, e, r⟩ := hm
        exact ⟨o, es, ep, t2.keep C _ e fC1.2.2 hCw, r⟩
      · exact (t1.toP.trans t2).fresh (TrP.ext (P := fun b => b = C) rfl hs.extBut) fun b e => .inr (e ▸ hC')
      · exact S2.free (P := fun b => b = C) (fun b e => e ▸ fC1) fun b o nb e => (hs.2 b nb).trans e
      · exact ⟨q2.gens.trans q.gens, q2.drawn.trans q.drawn, q2.os.trans q.os⟩
      · exact f2.moveP (P := fun b => b = C) (TrP.ext rfl hs.extBut) fun b ob e => hCo (e ▸ ob)
  · cases ev

theorem simS_expr {e : Expr} {ce : E} (h : SimV X c k ns sc e ce) {pos : Pos} (hsw : ∀ env, swapsWith e none pos.line env = pure false) : SimS X c k ns sc (.Expr e pos) (.expr ce) := by
  intro env ρ H fl ρ' H' A s W ev hE f hA S
  simp only [evalS] at ev
  split at ev
  · rename_i v H1 e1
    cases ev
    refine wpAny_Expr_any (wpAny_mono (h env ρ H v _ A s W e1 hE f hA S) (fun w s₁ p => ?_) fun _ _ x => x) hE.inter (hsw env)
    obtain ⟨W1, t1, S1, r1, q1⟩ := p
    exact ⟨W1, t1.toP, S1, q1, rfl, f.move t1⟩
  · cases ev

theorem simS_setItem {e a i : Expr} {ce ca ci : E} (he : SimV X c k ns sc e ce) (ha : SimV X c k ns sc a ca) (hi : SimV X c k ns sc i ci) {p pos : Pos} (hsw : ∀ env, swapsWith e (some (.Subscript a i p)) pos.line env = pure false) :
    SimS X c k ns sc (.Assign [.Subscript a i p] e pos) (.setItem ce ca ci) := by
  intro env ρ H fl ρ' H' A s W ev hE f hA S
  simp only [evalS] at ev
  split at ev
  · rename_i v H1 e1
    split at ev
    · rename_i x H2 e2
      split at ev
      · rename_i y H3 e3
        rw [Option.map_eq_some_iff] at ev
        obtain ⟨⟨u, H4⟩, e4, ev⟩ := ev
        cases ev
        refine wpAny_Assign_Subscript (wpAny_mono (he env ρ H v _ A s W e1 hE f hA S) (fun w s₁ p => ?_) fun _ _ x => x) (hsw env)
        obtain ⟨W1, t1, S1, r1, q1⟩ := p
        refine wpAny_mono (ha env ρ H1 x _ A s₁ W1 e2 hE (f.move t1) hA S1) (fun w s₂ p => ?_) fun _ _ x => x
        obtain ⟨W2, t2, S2, r2, q2⟩ := p
        refine wpAny_mono (hi env ρ H2 y _ A s₂ W2 e3 hE ((f.move t1).move t2) hA S2) (fun w s₃ p => ?_) fun _ _ x => x
        obtain ⟨W3, t3, S3, r3, q3⟩ := p
        simp only [effV] at e4
        refine wpAny_mono (sim_setItem S3 e4 ((r1.mono t2.le).mono t3.le) (r2.mono t3.le) r3) (fun _ s₄ p => ?_) fun _ _ x => x
        obtain ⟨W4, t4, S4, r4, q4⟩ := p
        exact ⟨W4, (((t1.trans t2).trans t3).trans t4).toP, S4, ((q1.trans q2).trans q3).trans q4, rfl, (((f.move t1).move t2).move t3).move t4⟩
      · cases ev
    · cases ev
  · cases ev

theorem simS_if {e : Expr} {ce : E} (h : SimT X c k ns sc e ce) {a b : List Stmt} {ca cb : List S} (ha : SimSs X c k ns sc a ca) (hb : SimSs X c k ns sc b cb) {pos : Pos} : SimS X c k ns sc (.If e a b pos) (.iff ce ca cb) := by
  intro env ρ H fl ρ' H' A s W ev hE f hA S
  simp only [evalS] at ev
  split at ev
  · rename_i v H1 e1
    split at ev
    · rename_i tv
      refine wpAny_If (wpAny_mono (h env ρ H v H1 true A s W e1 tv hE f hA S) (fun b s₁ p => ?_) fun _ _ x => x)
      obtain ⟨rfl, W1, t1, S1, q1⟩ := p
      rw [if_pos rfl]
      exact wpAny_mono (ha env ρ H1 fl ρ' H' A s₁ W1 ev hE (f.move t1) hA S1) (fun _ _ p => p.trans t1.toP q1) fun _ _ x => x
    · rename_i tv
      refine wpAny_If (wpAny_mono (h env ρ H v H1 false A s W e1 tv hE f hA S) (fun b s₁ p => ?_) fun _ _ x => x)
      obtain ⟨rfl, W1, t1, S1, q1⟩ := p
      rw [if_neg (by simp)]
      exact wpAny_mono (hb env ρ H1 fl ρ' H' A s₁ W1 ev hE (f.move t1) hA S1) (fun _ _ p => p.trans t1.toP q1) fun _ _ x => x
    · cases ev
  · cases ev

theorem simS_ret {e : Expr} {ce : E} (h : SimV X c k ns sc e ce) {pos : Pos} : SimS X c k ns sc (.Return (some e) pos) (.ret ce) := by
  intro env ρ H fl ρ' H' A s W ev hE f hA S
  simp only [evalS] at ev
  split at ev
  · rename_i v H1 e1
    cases ev
    refine wpAny_Return_some (wpAny_mono (h env ρ H v _ A s W e1 hE f hA S) (fun w s₁ p => ?_) fun _ _ x => x)
    obtain ⟨W1, t1, S1, r1, q1⟩ := p
    exact ⟨W1, t1.toP, S1, q1, w, rfl, r1⟩
  · cases ev
theorem simS_ret_none {pos : Pos} : SimS X c k ns sc (.Return none pos) (.ret (.const .none)) := by
  intro env ρ H fl ρ' H' A s W ev hE f hA S
  simp only [evalS, evalE, Option.some.injEq, Prod.mk.injEq] at ev
  obtain ⟨rfl, rfl, rfl⟩ := ev
  exact wpAny_Return_none ⟨W, .refl, S, .refl _, .none, rfl, RV.none⟩
theorem simS_stuck {st : Stmt} : SimS X c k ns sc st .stuck := by
  intro env ρ H fl ρ' H' A s W ev
  simp only [evalS, reduceCtorEq] at ev

theorem simSs_nil : SimSs X c k ns sc [] [] := by
  intro env ρ H fl ρ' H' A s W ev hE f hA S
  simp only [evalSs, Option.some.injEq, Prod.mk.injEq] at ev
  obtain ⟨rfl, rfl, rfl⟩ := ev
  exact wpAny_execs_nil ⟨W, .refl, S, .refl _, rfl, f⟩
theorem simSs_cons {st : Stmt} {cs : S} {sts : List Stmt} {css : List S} (h : SimS X c k ns sc st cs) (hs : SimSs X c k ns sc sts css) : SimSs X c k ns sc (st :: sts) (cs :: css) := by
  intro env ρ H fl ρ' H' A s W ev hE f hA S
  simp only [evalSs] at ev
  split at ev
  · rename_i ρ1 H1 e1
    refine wpAny_execs_cons (wpAny_mono (h env ρ H .next ρ1 H1 A s W e1 hE f hA S) (fun fl' s₁ p => ?_) fun _ _ x => x)
    obtain ⟨W1, t1, S1, q1, rfl, f1⟩ := p
    exact wpAny_mono (hs env ρ1 H1 fl ρ' H' A s₁ W1 ev hE f1 hA S1) (fun _ _ p => p.trans t1 q1) fun _ _ x => x
  · rename_i hn
    cases fl with
    | next => exact absurd ev (hn _ _)
    | ret v =>
      refine wpAny_execs_cons (wpAny_mono (h env ρ H (.ret v) ρ' H' A s W ev hE f hA S) (fun fl' s₁ p => ?_) fun _ _ x => x)
      obtain ⟨W1, t1, S1, q1, w, rfl, r1⟩ := p
      exact ⟨W1, t1, S1, q1, w, rfl, r1⟩
end
end Mine
end

section
set_option autoImplicit false
namespace Mine
open PySem

theorem forLoop_any {prog : Program} {w : World} {A : Around} {s : Shared} {R : Result → Shared → Prop} {target it body env} (I : Nat → Shared → Prop)
    (turn : ∀ n s, I n s → wpAny (model prog w) A (pyNext it) (fun r s₁ => match r with
      | none => R (.ok .next) s₁
      | some v => wpAny (model prog w) A (letOwnedTupleGo target it v) (fun _ s₁' =>
          wpAny (model prog w) A (assign target env v) (fun _ s₂ => wpAny (model prog w) A (execs body env) (fun f s₃ => match f with
            | .next | .cont => ∃ m, m < n ∧ I m s₃
            | .brk => R (.ok .next) s₃
            | .ret v => R (.ok (.ret v)) s₃) NoE s₂) NoE s₁') NoE s₁) NoE s)
    (n : Nat) (h : I n s) : codeAny (model prog w) A (.forLoop target it body [] env) R s := by
  refine codeAny_forLoop_any I (fun n s hI => wpAny_mono (turn n s hI) (fun r s₁ h₁ => ?_) fun _ _ x => x.elim) n h
  cases r with
  | none => exact wpAny_execs_nil h₁
  | some v => exact wpAny_mono h₁ (fun _ s₂ h₂ => wpAny_mono h₂ (fun _ s₃ h₃ => wpAny_mono h₃ (fun _ _ x => x) fun _ _ x => x.elim) fun _ _ x => x.elim) fun _ _ x => x.elim

structure LI (X : Cx) (A : Around) (Z : Iter X A) (W2 : Wd) (s₂ : Shared) (H1 : Hp) (env : Env) (ns : List Str) (sc : Scope) (rest : List V) (ρc : Loc) (Hc : Hp) (s' : Shared) (Wc : Wd) : Prop where
  tr : TrP (fun b => b ∈ Z.own ∨ OwnW sc env b) W2 Wc s₂.heap s'.heap
  S : SR X.B Wc Hc s'.heap
  q : Rest s₂ s'
  st : Z.St Wc H1 rest s'.heap
  own : ∀ b ∈ Z.own, Free X Wc b ∧ s'.heap.get? b ≠ none
  fr : FR Wc env ns sc ρc s'.heap

section
variable {X : Cx} {c : Ctx} {k : Nat} {ns : List Str} {sc csc : Scope} {W W' : Wd} {s s' : Shared} {H H' : Hp} {ρ ρ' : Loc} {A : Around} {env : Env} {v : V} {w : Value} {fl : Fl} {fl' : Flow}

theorem guard_of {G : List Nat} {H H0 : Hp} (h : G.all (fun i => decide (H[i]? = H0[i]?)) = true) : ∀ i ∈ G, H[i]? = H0[i]? := by
  intro i m
  rw [List.all_eq_true] at h
  exact of_decide_eq_true (h i m)

theorem simS_for {target iter : Expr} {body : List Stmt} {ct : T} {cit : It} {cb : List S} (htg' : itTg cit target) (ht : trT ns sc target = some ct) (hit : SimIt X c k ns sc iter cit) (hb : SimSs X c k ns sc body cb) {pos : Pos} :
    SimS X c k ns sc (.For target iter body [] pos) (.forr ct cit cb) := by
  intro env ρ H fl ρ' H' A s W ev hE f hA S
  simp only [evalS] at ev
  split at ev
  · rename_i xs G H1 e1
    refine wpAny_For (wpAny_mono (hit.run env ρ H xs G _ A s W e1 hE f hA S) (fun x s₁ h₁ => wpAny_mono h₁ (fun it s₂ p => ?_) fun _ _ x => x) fun _ _ x => x) (hit.fold env)
    obtain ⟨Z, W2, rfl, t2, S2, q2, st2, own2, hG, htg⟩ := p
    have envO : ∀ b, Own env b → b ∉ Z.own := fun b ob m => f.alive b ob (own2 b m).2.2
    generalize hF : (fun (x : V) (ρ : Loc) (H : Hp) => match bindT ct x ρ with
        | some ρ' => evalSs c cb ρ' H
        | none => none) = F at ev
    refine forLoop_any (fun n s' => ∃ rest ρc Hc Wc, n = rest.length ∧ forL F G H1 rest ρc Hc = some (fl, ρ', H') ∧ LI X A Z W2 s₂ H1 env ns sc rest ρc Hc s' Wc) (fun n s' hI => ?_) xs.length ?_
    · obtain ⟨rest, ρc, Hc, Wc, rfl, hl, I⟩ := hI
      cases rest with
      | nil =>
        simp only [forL] at hl
        split at hl
        case isFalse => cases hl
        rename_i hg
        cases hl
        have hg' := guard_of hg
        have st := Z.move Wc Wc H1 H' [] s'.heap s'.heap I.st (.refl _) (fun i m => hg' i (hG i m)) fun _ _ _ e => e
        refine wpAny_mono (Z.done s' Wc H' I.S st I.own) (fun r s₄ p => ?_) fun _ _ x => x
        obtain ⟨rfl, t4, S4, q4⟩ := p
        refine ⟨Wc, ?_, S4, q2.trans (I.q.trans q4), rfl, I.fr.moveP t4 envO⟩
        refine t2.toP.fresh (I.tr.trans (t4.mono fun b m => .inl m)) ?_
        rintro b (m | m)
        · exact .inr (own2 b m).2.2
        · exact .inl m
      | cons x rest =>
        simp only [forL] at hl
        split at hl
        case isFalse => cases hl
        rename_i hg
        have hg' := guard_of hg
        have st := Z.move Wc Wc H1 Hc (x :: rest) s'.heap s'.heap I.st (.refl _) (fun i m => hg' i (hG i m)) fun _ _ _ e => e
        refine wpAny_mono (Z.item target s' Wc Hc x rest (htg target htg') I.S st I.own) (fun r' s₄ p => ?_) fun _ _ x => x
        obtain ⟨w, rfl, p⟩ := p
        refine wpAny_mono p (fun _ s₅ p => ?_) fun _ _ x => x
        obtain ⟨W5, t5, S5, r5, q5, st5, own5⟩ := p
        have hstep : ∃ fl1 ρ1 H2 ρ2, bindT ct x ρc = some ρ1 ∧ evalSs c cb ρ1 Hc = some (fl1, ρ2, H2) ∧ F x ρc Hc = some (fl1, ρ2, H2) := by
          have : ∃ r, F x ρc Hc = some r := by
            cases q : F x ρc Hc with
            | none => rw [q] at hl; cases hl
            | some r => exact ⟨r, rfl⟩
          obtain ⟨⟨fl1, ρ2, H2⟩, hr⟩ := this
          have hr' := hr
          rw [← hF] at hr'
          dsimp only at hr'
          split at hr'
          · rename_i ρ1 hb1; exact ⟨fl1, ρ1, H2, ρ2, hb1, hr', hr⟩
          · cases hr'
        obtain ⟨fl1, ρ1, H2, ρ2, hb1, hb2, hF1⟩ := hstep
        have fr5 : FR W5 env ns sc ρc s₅.heap := I.fr.moveP t5 envO
        refine wpAny_mono (sim_assign hA.handled hE fr5 S5 ht hb1 r5) (fun _ s₆ p => ?_) fun _ _ x => x
        obtain ⟨t6, S6, fr6, q6⟩ := p
        refine wpAny_mono (hb env ρ1 Hc fl1 ρ2 H2 A s₆ W5 hb2 hE fr6 hA S6) (fun fl' s₇ p => ?_) fun _ _ x => x
        obtain ⟨W7, t7, S7, q7, p7⟩ := p
        have t67 : TrP (OwnW sc env) W5 W7 s₅.heap s₇.heap := t6.trans t7
        have tt : TrP (fun b => b ∈ Z.own ∨ OwnW sc env b) Wc W7 s'.heap s₇.heap := (t5.mono fun b m => .inl m).trans (t67.mono fun b m => .inr m)
        rw [hF1] at hl
        cases fl1 with
        | next =>
          obtain ⟨rfl, fr7⟩ := p7
          have hnw : ∀ b ∈ Z.own, ¬ OwnW sc env b := fun b m o => envO b o.own m
          refine ⟨rest.length, Nat.lt_succ_self _, rest, ρ2, H2, W7, rfl, hl, I.tr.trans tt, S7, I.q.trans (q5.trans (q6.trans q7)), ?_, ?_, fr7⟩
          · exact Z.move W5 W7 Hc H1 rest s₅.heap s₇.heap st5 t67.le (fun i m => (hg' i (hG i m)).symm) fun b m o e => t67.keep b o e (own5 b m).1.2.2 (hnw b m)
          · exact fun b m => ⟨(own5 b m).1.move t67 (own5 b m).2 (hnw b m), t67.alive b (own5 b m).2 (hnw b m)⟩
        | ret v =>
          cases hl
          obtain ⟨w', rfl, r7⟩ := p7
          refine ⟨W7, ?_, S7, q2.trans (I.q.trans (q5.trans (q6.trans q7))), w', rfl, r7⟩
          refine t2.toP.fresh (I.tr.trans tt) ?_
          rintro b (m | m)
          · exact .inr (own2 b m).2.2
          · exact .inl m
    · exact ⟨xs, ρ, H1, W2, rfl, ev, .refl, S2, .refl _, st2, fun b m => ⟨(own2 b m).1, (own2 b m).2.1⟩, f.move t2⟩
  · cases ev
end
end Mine
end

section
set_option autoImplicit false
namespace Mine
open PySem

mutual
theorem RV.okV {W : Wd} : ∀ {v : V} {w : Value}, RV W v w → v.ok W.φ.length = true
  | .none, _, _ => rfl
  | .bool _, _, _ => rfl
  | .int _, _, _ => rfl
  | .str _, _, _ => rfl
  | .tup xs, _, x => by simp only [RV] at x; obtain ⟨a, vs, n, _, _, r⟩ := x; simp only [V.ok]; exact RVs.okVs r
  | .lst xs, _, x => by simp only [RV] at x; obtain ⟨a, vs, n, _, _, r⟩ := x; simp only [V.ok]; exact RVs.okVs r
  | .ref i, _, x => by
    simp only [RV] at x
    obtain ⟨a, _, e⟩ := x
    simp only [V.ok, decide_eq_true_eq]
    exact (List.getElem?_eq_some_iff.mp e).1
theorem RVs.okVs {W : Wd} : ∀ {v : List V} {w : List Value}, RVs W v w → V.oks W.φ.length v = true
  | [], _, _ => rfl
  | _ :: _, _ :: _, x => by simp only [RVs] at x; simp only [V.oks, Bool.and_eq_true]; exact ⟨RV.okV x.1, RVs.okVs x.2⟩
  | _ :: _, [], x => by simp only [RVs] at x
end

/-- fewer boxes, more frozen -/
structure Cut (n : Nat) (W W2 : Wd) : Prop where
  σ : ∀ b o, W.σ b = some o → W2.σ b = some o
  φ : ∀ i a, i < n → W.φ[i]? = some a → W2.φ[i]? = some a

mutual
theorem RV.cut {n : Nat} {W W2 : Wd} (h : Cut n W W2) : ∀ {v : V} {w : Value}, v.ok n = true → RV W v w → RV W2 v w
  | .none, _, _, x => by simpa only [RV] using x
  | .bool _, _, _, x => by simpa only [RV] using x
  | .int _, _, _, x => by simpa only [RV] using x
  | .str _, _, _, x => by simpa only [RV] using x
  | .tup xs, _, ok, x => by
    simp only [RV, V.ok] at x ok ⊢
    obtain ⟨a, vs, n, e, g, r⟩ := x
    exact ⟨a, vs, n, e, h.σ _ _ g, RVs.cut h ok r⟩
  | .lst xs, _, ok, x => by
    simp only [RV, V.ok] at x ok ⊢
    obtain ⟨a, vs, n, e, g, r⟩ := x
    exact ⟨a, vs, n, e, h.σ _ _ g, RVs.cut h ok r⟩
  | .ref i, _, ok, x => by
    simp only [RV, V.ok, decide_eq_true_eq] at x ok ⊢
    obtain ⟨a, e, g⟩ := x
    exact ⟨a, e, h.φ i a ok g⟩
theorem RVs.cut {n : Nat} {W W2 : Wd} (h : Cut n W W2) : ∀ {v : List V} {w : List Value}, V.oks n v = true → RVs W v w → RVs W2 v w
  | [], [], _, _ => by simp only [RVs]
  | _ :: _, _ :: _, ok, x => by simp only [RVs, V.oks, Bool.and_eq_true] at x ok ⊢; exact ⟨RV.cut h ok.1 x.1, RVs.cut h ok.2 x.2⟩
  | [], _ :: _, _, x => by simp only [RVs] at x
  | _ :: _, [], _, x => by simp only [RVs] at x
end

theorem RVs.map {W W2 : Wd} {f : V → Option V} : ∀ {xs ys : List V} {ws : List Value}, (∀ v v' w, f v = some v' → RV W v w → RV W2 v' w) → mapO f xs = some ys → RVs W xs ws → RVs W2 ys ws
  | [], ys, [], _, e, _ => by simp only [mapO, Option.some.injEq] at e; subst e; simp only [RVs]
  | x :: xs, ys, w :: ws, h, e, r => by
    simp only [mapO] at e
    split at e
    · rename_i y hy
      split at e
      · rename_i ys' hys
        cases e
        simp only [RVs] at r ⊢
        exact ⟨h x y w hy r.1, RVs.map h hys r.2⟩
      · cases e
    · cases e
  | [], _, _ :: _, _, _, r => by simp only [RVs] at r
  | _ :: _, _, [], _, _, r => by simp only [RVs] at r

section
variable {X : Cx} {W W' : Wd} {s s' : Shared} {H H' H1 : Hp} {v v' : V} {w : Value}

theorem frz_sound {n : Nat} {W2 : Wd} (hc : Cut n W' W2) (S : SR X.B W' H1 s'.heap) (hd : ∀ i a o, n ≤ i → W'.φ[i]? = some a → s'.heap.get? a = some o → W2.σ a = some o) :
    ∀ (k : Nat) (v v' : V) (w : Value), frzV H1 n k v = some v' → RV W' v w → RV W2 v' w := by
  intro k
  induction k with
  | zero =>
    intro v v' w e r
    simp only [frzV] at e
    split at e
    · rename_i ok; cases e; exact r.cut hc ok
    · cases e
  | succ k ih =>
    intro v v' w e r
    simp only [frzV] at e
    split at e
    · rename_i ok; cases e; exact r.cut hc ok
    · rename_i nok
      split at e
      · rename_i xs
        rw [Option.map_eq_some_iff] at e
        obtain ⟨ys, e, rfl⟩ := e
        simp only [RV] at r ⊢
        obtain ⟨a, vs, m, e', g, q⟩ := r
        exact ⟨a, vs, m, e', hc.σ _ _ g, q.map ih e⟩
      · rename_i xs
        rw [Option.map_eq_some_iff] at e
        obtain ⟨ys, e, rfl⟩ := e
        simp only [RV] at r ⊢
        obtain ⟨a, vs, m, e', g, q⟩ := r
        exact ⟨a, vs, m, e', hc.σ _ _ g, q.map ih e⟩
      · rename_i i
        simp only [V.ok, decide_eq_true_eq] at nok
        simp only [RV] at r
        obtain ⟨a, rfl, g⟩ := r
        split at e
        · rename_i xs hx
          rw [Option.map_eq_some_iff] at e
          obtain ⟨ys, e, rfl⟩ := e
          obtain ⟨us, m, ho, q⟩ := S.objs i _ a hx g
          simp only [RV]
          exact ⟨a, us, m, rfl, hd i a _ (by omega) g ho, q.map ih e⟩
        · cases e
      · cases e

/-- the world behind a call: what the call made is frozen, but what `keep` says -/
noncomputable def cutW (W' : Wd) (n : Nat) (h : Heap) (keep : Addr → Bool) : Wd where
  σ := fun b => if keep b then none else if b ∈ W'.φ.drop n then h.get? b else W'.σ b
  φ := W'.φ.take n

theorem okAll_get {n : Nat} : ∀ {H H1 : Hp}, okAll n H H1 = true → ∀ (i : Nat) (o o' : O), H[i]? = some o → H1[i]? = some o' → o' = o ∨ o'.ok n = true
  | [], _, _, i, o, _, e, _ => by simp at e
  | a :: H, b :: H1, h, i, o, o', e, e' => by
    simp only [okAll, Bool.and_eq_true, Bool.or_eq_true, decide_eq_true_eq] at h
    cases i with
    | zero => simp at e e'; subst e e'; exact h.1
    | succ i => exact okAll_get h.2 i o o' (by simpa using e) (by simpa using e')
  | _ :: _, [], h, _, _, _, _, _ => by simp [okAll] at h

theorem cut_world (S₀ : SR X.B W H s.heap) (t : Tr W W' s.heap s'.heap) (S : SR X.B W' H1 s'.heap) (hok : okAll H.length H H1 = true) (keep : Addr → Bool) (hkeep : ∀ b, keep b = true → b ∈ W'.φ.drop H.length) :
    let W2 := cutW W' H.length s'.heap keep
    Tr W W2 s.heap s'.heap ∧ SR X.B W2 (H1.take H.length) s'.heap ∧ Cut H.length W' W2 ∧ (∀ i a o, H.length ≤ i → W'.φ[i]? = some a → keep a = false → s'.heap.get? a = some o → W2.σ a = some o) := by
  intro W2
  have hn : W.φ.length = H.length := S₀.len.symm
  have htake : W'.φ.take H.length = W.φ := by
    obtain ⟨r, hr⟩ := t.le.bx
    rw [← hr, ← hn, List.take_left']
    rfl
  have hsplit : W'.φ = W.φ ++ W'.φ.drop H.length := by rw [← htake, List.take_append_drop]
  have hdis : ∀ b, b ∈ W.φ → b ∉ W'.φ.drop H.length := by
    have := S.nodup
    rw [hsplit] at this
    intro b hb hb'
    rw [List.nodup_append] at this
    exact this.2.2 b hb b hb' rfl
  have hdmem : ∀ b, b ∈ W'.φ.drop H.length → b ∈ W'.φ := fun b m => List.mem_of_mem_drop m
  have cut : Cut H.length W' W2 := by
    refine ⟨fun b o e => ?_, fun i a hi e => ?_⟩
    · show (if keep b then none else if b ∈ W'.φ.drop H.length then s'.heap.get? b else W'.σ b) = some o
      have hb : b ∉ W'.φ.drop H.length := fun m => by rw [S.apart b (hdmem b m)] at e; cases e
      rw [if_neg (fun q => hb (hkeep b q)), if_neg hb]; exact e
    · show (W'.φ.take H.length)[i]? = some a
      rw [List.getElem?_take, if_pos hi]; exact e
  have hlen : H.length ≤ H1.length := by rw [S.len, ← hn]; exact t.le.bx.length_le
  refine ⟨⟨⟨fun b o e => ?_, ?_⟩, t.keep, t.alive, fun b m => ?_, fun b o e => ?_⟩, ⟨S.base, fun b o e => ?_, fun b m => ?_, fun b m => ?_, ?_, ?_, fun i o a e e' => ?_⟩, cut, fun i a o hi e hk ho => ?_⟩
  · exact cut.σ b o (t.le.fz b o e)
  · show W.φ <+: W'.φ.take H.length; rw [htake]; exact List.prefix_refl _
  · have m' : b ∈ W'.φ.take H.length := m
    rw [htake] at m'; exact .inl m'
  · have e' : (if keep b then none else if b ∈ W'.φ.drop H.length then s'.heap.get? b else W'.σ b) = some o := e
    split at e'
    · cases e'
    · split at e'
      · rename_i hb
        rcases t.nf b (hdmem b hb) with q | q
        · exact absurd hb (hdis b q)
        · exact .inr q
      · exact t.nz b o e'
  · have e' : (if keep b then none else if b ∈ W'.φ.drop H.length then s'.heap.get? b else W'.σ b) = some o := e
    split at e'
    · cases e'
    · split at e'
      · exact e'
      · exact S.froz b o e'
  · have m' : b ∈ W'.φ.take H.length := m
    rw [htake] at m'
    show (if keep b then none else if b ∈ W'.φ.drop H.length then s'.heap.get? b else W'.σ b) = none
    rw [if_neg (fun q => hdis b m' (hkeep b q)), if_neg (hdis b m')]
    exact S.apart b (by rw [hsplit]; exact List.mem_append.mpr (.inl m'))
  · exact S.above b (List.mem_of_mem_take m)
  · exact S.nodup.sublist (List.take_sublist _ _)
  · show (H1.take H.length).length = (W'.φ.take H.length).length
    rw [htake, hn, List.length_take]; omega
  · have hi : i < H.length := by
      have := (List.getElem?_eq_some_iff.mp e).1
      rw [List.length_take] at this; omega
    rw [List.getElem?_take, if_pos hi] at e
    have e2 : W'.φ[i]? = some a := by
      have : (W'.φ.take H.length)[i]? = some a := e'
      rw [List.getElem?_take, if_pos hi] at this; exact this
    have x := S.objs i o a e e2
    have hok' : o.ok H.length = true := by
      rcases okAll_get hok i H[i] o (List.getElem?_eq_getElem hi) e with q | q
      · have e3 : W.φ[i]? = some a := by rw [← htake, List.getElem?_take, if_pos hi]; exact e2
        have y := S₀.objs i _ a (List.getElem?_eq_getElem hi) e3
        rw [← q] at y
        cases o with
        | list xs => obtain ⟨us, m, _, r⟩ := y; simp only [O.ok]; rw [← hn]; exact r.okVs
      · exact q
    cases o with
    | list xs => obtain ⟨us, m, g, r⟩ := x; exact ⟨us, m, g, r.cut cut (by simpa only [O.ok] using hok')⟩
  · show (if keep a then none else if a ∈ W'.φ.drop H.length then s'.heap.get? a else W'.σ a) = some o
    have hm : a ∈ W'.φ.drop H.length := by
      rw [List.mem_iff_getElem?]
      exact ⟨i - H.length, by rw [List.getElem?_drop, Nat.add_sub_cancel' hi]; exact e⟩
    rw [if_neg (by simp [hk]), if_pos hm]; exact ho

/-- what a call hands back -/
theorem finish_sound {fr : Bool} (S₀ : SR X.B W H s.heap) (t : Tr W W' s.heap s'.heap) (S : SR X.B W' H1 s'.heap) (r : RV W' v w) (q : Rest s s') (e : finish H H1 v = some (v', fr, H')) :
    (fr = true → ∀ xs, v' = .lst xs → PL X W s H' (.list xs) w s') ∧ PV X W s H' v' w s' := by
  unfold finish at e
  split at e
  · rename_i v'' hv
    split at e
    · rename_i hok
      cases e
      refine ⟨fun hfr xs hxs => ?_, ?_⟩
      · cases v <;> simp only [isNewRef, Bool.false_eq_true] at hfr
        rename_i i
        rw [Bool.and_eq_true, decide_eq_true_eq] at hfr
        obtain ⟨hi, hfr⟩ := hfr
        split at hfr
        · rename_i ys hys
          have hnok : ¬ ((V.ref i).ok H.length = true) := by simp only [V.ok, decide_eq_true_eq]; omega
          have hv0 := hv
          simp only [frzV] at hv
          rw [if_neg hnok, hys] at hv
          dsimp only at hv
          rw [Option.map_eq_some_iff] at hv
          obtain ⟨zs, hz, hv⟩ := hv
          rw [hxs] at hv
          cases hv
          have same : ∀ (k : Nat) (ys zs : List V), V.oks H.length ys = true → mapO (frzV H1 H.length k) ys = some zs → zs = ys := by
            intro k ys
            induction ys with
            | nil => intro zs _ e; simp only [mapO, Option.some.injEq] at e; exact e.symm
            | cons y ys ih =>
              intro zs ok e
              simp only [V.oks, Bool.and_eq_true] at ok
              have hy : frzV H1 H.length k y = some y := by cases k <;> simp only [frzV, ok.1, if_true]
              simp only [mapO, hy] at e
              split at e
              · rename_i us hu; cases e; rw [ih us ok.2 hu]
              · cases e
          have hzy := same 5 ys _ hfr hz
          subst hzy
          simp only [RV] at r
          obtain ⟨a, rfl, g⟩ := r
          have hm : a ∈ W'.φ.drop H.length := by
            rw [List.mem_iff_getElem?]
            exact ⟨i - H.length, by rw [List.getElem?_drop, Nat.add_sub_cancel' hi]; exact g⟩
          obtain ⟨t2, S2, cut, _⟩ := cut_world S₀ t S hok (fun b => decide (b = a)) (fun b e => by rw [decide_eq_true_eq] at e; subst e; exact hm)
          obtain ⟨us, m, ho, ru⟩ := S.objs i _ a hys g
          refine ⟨_, a, rfl, t2, S2, ⟨us, m, ho, ru.cut cut hfr⟩, ?_, ?_, ?_, q⟩
          · show (if decide (a = a) then none else _) = none
            simp
          · intro m2
            have := S.nodup
            rw [← List.take_append_drop H.length W'.φ, List.nodup_append] at this
            exact this.2.2 a m2 a hm rfl
          · rcases t.nf a (List.mem_of_mem_drop hm) with m2 | m2
            · have := S.nodup
              have htake : W'.φ.take H.length = W.φ := by
                obtain ⟨r, hr⟩ := t.le.bx
                rw [← hr, ← S₀.len.symm, List.take_left']
                rfl
              rw [← List.take_append_drop H.length W'.φ, List.nodup_append, htake] at this
              exact absurd rfl (this.2.2 a m2 a hm)
            · exact m2
        · cases hfr
      · obtain ⟨t2, S2, cut, hd⟩ := cut_world S₀ t S hok (fun _ => false) (fun b e => by cases e)
        exact ⟨_, t2, S2, frz_sound cut S (fun i a o hi g ho => hd i a o hi g rfl ho) 6 v _ w hv r, q⟩
    · cases e
  · cases e
end
end Mine
end

section
set_option autoImplicit false
namespace Mine
open PySem

/-- a def of the text, as it lies on the base -/
structure FnAt (X : Cx) (f : Str) (ps : List Str) (sc : Scope) (body : List Stmt) (fa : Addr) (fo : Obj) (fd : FuncData) : Prop where
  name : X.gv f = some (.ref fa)
  at_ : X.B.get? fa = some fo
  data : fo.data = .func fd
  code : X.B.CodeRec fd.code fd.qualname
  body : fd.body = .stmts body
  closure : fd.closure = []
  scope : fd.scope = sc
  globals : fd.globals = mainGlobals
  builtins : fd.builtins = builtinsNs
  binds : ∀ vals : List Value, vals.length = ps.length → bindArgs fd ⟨vals, []⟩ = pure (ps.zip vals)

structure FnOk (sc : Scope) (ps ns : List Str) : Prop where
  kind : sc.kind = .function
  gen : sc.isGenerator = false
  co : sc.isCoroutine = false
  nodup : ns.Nodup
  pre : ps = ns.take ps.length
  tgt : ∀ x ∈ ps, isTgt sc x = true
  nofree : ∀ y ∈ sc.names, y.2 ≠ .free
theorem fnOk_of {sc : Scope} {ps ns : List Str} (h : fnOk sc ps ns = true) : FnOk sc ps ns := by
  unfold fnOk at h
  simp only [Bool.and_eq_true, Bool.not_eq_true', beq_iff_eq, decide_eq_true_eq, List.all_eq_true] at h
  obtain ⟨⟨⟨⟨⟨⟨h1, h2⟩, h3⟩, h4⟩, h5⟩, h6⟩, h7⟩ := h
  exact ⟨h1, h2, h3, h4, h5, h6, fun y hy e => by have := h7 y hy; rw [e] at this; simp at this⟩

theorem cellsFrom_mem : ∀ (names : List (Str × NameKind)) (n : Nat) (acc : List (Str × Addr)) (x : Str), (x, NameKind.cell) ∈ names ∨ (∃ c, (x, c) ∈ acc) → ∃ c, (x, c) ∈ cellsFrom n names acc
  | [], _, _, _, h => h.elim (fun m => absurd m (by simp)) id
  | (name, kind) :: r, n, acc, x, h => by
    unfold cellsFrom
    split
    · refine cellsFrom_mem r _ _ x ?_
      rcases h with h | ⟨c, h⟩
      · rcases List.mem_cons.mp h with e | e
        · cases e; exact .inr ⟨_, List.mem_cons_self⟩
        · exact .inl e
      · exact .inr ⟨c, List.mem_cons_of_mem _ h⟩
    · rename_i hk
      refine cellsFrom_mem r _ _ x ?_
      rcases h with h | h
      · rcases List.mem_cons.mp h with e | e
        · cases e; exact absurd rfl hk
        · exact .inl e
      · exact .inr h
theorem lookup_of_mem {β : Type} {l : List (Str × β)} {x : Str} (h : ∃ c, (x, c) ∈ l) : ∃ c, l.lookup x = some c := by
  induction l with
  | nil => obtain ⟨c, h⟩ := h; simp at h
  | cons p l ih =>
    obtain ⟨n, k⟩ := p
    rw [List.lookup_cons]
    split
    · exact ⟨k, rfl⟩
    · rename_i hne
      refine ih ?_
      obtain ⟨c, h⟩ := h
      rcases List.mem_cons.mp h with e | e
      · cases e; simp at hne
      · exact ⟨c, e⟩

theorem bindL_other {kf : Str → Option NameKind} {x : Str} : ∀ {binds : List (Str × Value)} {m : Str → Option Value}, x ∉ binds.map (·.1) → bindL kf binds m x = m x
  | [], _, _ => rfl
  | (n, v) :: r, m, h => by
    simp only [List.map_cons, List.mem_cons, not_or] at h
    unfold bindL
    rw [bindL_other h.2]
    split
    · exact if_neg h.1
    · rfl
theorem bindL_mem {kf : Str → Option NameKind} {x : Str} {w : Value} (hk : kf x = some .local) : ∀ {binds : List (Str × Value)} {m : Str → Option Value}, (binds.map (·.1)).Nodup → (x, w) ∈ binds → bindL kf binds m x = some w
  | (n, v) :: r, m, hn, h => by
    simp only [List.map_cons, List.nodup_cons] at hn
    unfold bindL
    rcases List.mem_cons.mp h with e | e
    · cases e
      rw [bindL_other hn.1, if_pos hk]; exact if_pos rfl
    · exact bindL_mem hk hn.2 e
theorem bindC_other {kf : Str → Option NameKind} {x : Str} : ∀ {binds : List (Str × Value)} {m : Str → Option Value}, x ∉ binds.map (·.1) → bindC kf binds m x = m x
  | [], _, _ => rfl
  | (n, v) :: r, m, h => by
    simp only [List.map_cons, List.mem_cons, not_or] at h
    unfold bindC
    rw [bindC_other h.2]
    split
    · rfl
    · exact if_neg h.1
theorem bindC_mem {kf : Str → Option NameKind} {x : Str} {w : Value} (hk : kf x = some .cell) : ∀ {binds : List (Str × Value)} {m : Str → Option Value}, (binds.map (·.1)).Nodup → (x, w) ∈ binds → bindC kf binds m x = some w
  | (n, v) :: r, m, hn, h => by
    simp only [List.map_cons, List.nodup_cons] at hn
    unfold bindC
    rcases List.mem_cons.mp h with e | e
    · cases e
      rw [bindC_other hn.1, if_neg (by rw [hk]; simp)]; exact if_pos rfl
    · exact bindC_mem hk hn.2 e

section
variable {X : Cx} {G : Glob} {c : Ctx} {k : Nat} {W W' : Wd} {s s' : Shared} {H H' : Hp}

theorem call_sound (hB : BaseOk X) {f : Str} {ps ns : List Str} {sc : Scope} {body : List Stmt} {cb : List S} {fa : Addr} {fo : Obj} {fd : FuncData} (hF : FnAt X f ps sc body fa fo fd) (hO : FnOk sc ps ns) (hb : SimSs X c k ns sc body cb)
    {m : Nat} (hm : m = ns.length - ps.length) {args : List V} {fl : Fl} {ρ' : Loc} {H1 : Hp} {v' : V} {fr : Bool} (hlen : args.length = ps.length)
    (ev : evalSs c cb (args.map some ++ List.replicate m none) H = some (fl, ρ', H1)) (hfin : finish H H1 (match fl with | .ret v => v | .next => .none) = some (v', fr, H'))
    (A : Around) (ws : List Value) (hA : AOk (k + 1) A) (S : SR X.B W H s.heap) (r : RVs W args ws) :
    codeAny X.M A (.call (.ref fa) ⟨ws, []⟩) (fun r s' => ∃ w, r = .ok (.ret w) ∧ (fr = true → ∀ xs, v' = .lst xs → PL X W s H' (.list xs) w s') ∧ PV X W s H' v' w s') s := by
  have hwl : ws.length = ps.length := r.length.symm.trans hlen
  have hlook : ∀ x, fd.scope.names.lookup x = sc.names.lookup x := fun x => by rw [hF.scope]
  have hcell : ∀ L x, sc.names.lookup x = some .cell → ∃ c, (cellsFrom L fd.scope.names []).lookup x = some c := fun L x e => lookup_of_mem (cellsFrom_mem _ _ _ x (.inl (by rw [hF.scope]; exact lookup_mem e)))
  have hk : ∀ x ∈ ps.zip ws, fd.scope.names.lookup x.1 = some .local ∨ (fd.scope.names.lookup x.1 = some .cell ∧ ((cellsFrom (s.heap.objs.size + 1) fd.scope.names []).lookup x.1).isSome = true) := by
    rintro ⟨x, w⟩ hx
    have hxp : x ∈ ps := (List.of_mem_zip hx).1
    rcases isTgt_kind (hO.tgt x hxp) with e | e
    · exact .inl ((hlook x).trans e)
    · obtain ⟨c', hc'⟩ := hcell (s.heap.objs.size + 1) x e
      exact .inr ⟨(hlook x).trans e, by rw [hc']; rfl⟩
  refine codeAny_call_cells hA.room (S.base _ _ hF.at_) hF.data (hB.nolimit.keeps S.base) (hF.code.keeps S.base) hF.body (hF.binds ws hwl) hF.closure hk (fun s₁ x => ?_) (by rw [hF.scope]; exact hO.co) (by rw [hF.scope]; exact hO.gen) (by rw [hF.scope]; exact hO.kind)
  generalize hL : s.heap.objs.size = L at x
  generalize henv : callEnvC fd L fa = env at x ⊢
  have eloc : env.locals = L := by rw [← henv]; rfl
  have ecel : env.cells = cellsFrom (L + 1) fd.scope.names [] := by rw [← henv]; rfl
  have ekin : ∀ x, env.kindOf x = sc.names.lookup x := fun x => by rw [← henv, ← hlook]; rfl
  have esck : env.scope.kind = .function := by rw [← henv]; show fd.scope.kind = _; rw [hF.scope]; exact hO.kind
  have hnone : ∀ b, L ≤ b → s.heap.get? b = none := fun b hb => by
    cases q : s.heap.get? b with
    | none => rfl
    | some o => exact absurd (Heap.lt_size q) (Nat.not_lt.mpr (hL ▸ hb))
  have own : ∀ b, Own env b → s.heap.get? b = none := by
    rintro b (rfl | ⟨y, hy⟩)
    · exact hnone _ (by rw [eloc]; exact Nat.le_refl _)
    · exact hnone _ (Nat.le_of_lt (eloc ▸ x.above y b (lookup_mem hy)))
  have hE : EnvOk X sc env := by
    refine ⟨esck, by rw [← henv]; exact hF.globals, by rw [← henv]; exact hF.builtins, fun y hy => ?_, ?_, fun y e => (ekin y).trans e, fun y e => ?_, fun y e => (ekin y).trans e, fun y e => ?_, fun a b c' ha hb => ?_, fun b ob => ?_⟩
    · unfold isGlob at hy
      rw [Bool.and_eq_true] at hy
      have h1 := hy.1
      split at h1
      · rename_i e; exact (ekin y).trans e
      · cases h1
    · show (env.scope.kind == .module && _) = false; rw [esck]; rfl
    · rw [ekin]; exact e
    · rcases e with e | e
      · rw [ecel]; exact hcell _ y e
      · exact absurd rfl (hO.nofree _ (lookup_mem e))
    · exact name_of_addr x.apart (lookup_mem ha) (lookup_mem hb)
    · exact (Free.of_none S (own b ob)).1
  have keep := x.toInCall.keep
  have S₁ : SR X.B W H s₁.heap := S.grow keep
  have hzip : (ps.zip ws).map (·.1) = ps := by rw [List.map_fst_zip]; omega
  have hpsn : ps.Nodup := by rw [hO.pre]; exact hO.nodup.sublist (List.take_sublist _ _)
  have f₁ : FR W env ns sc (args.map some ++ List.replicate m none) s₁.heap := by
    refine ⟨fun y i u hy hi hu => ?_, fun b ob => (Free.of_none S (own b ob)).2.2, fun b ob => ?_, ⟨_, x.toInCall.ns⟩, fun y c' hc' => ⟨_, x.cell y c' hc'⟩, fun b ob => (Free.of_none S (own b ob)).2.1⟩
    · have hia : i < args.length := by
        rcases Nat.lt_or_ge i args.length with h | h
        · exact h
        · rw [List.getElem?_append_right (by simpa using h), List.getElem?_replicate] at hu
          split at hu <;> cases hu
      rw [List.getElem?_append_left (by simpa using hia), List.getElem?_map, List.getElem?_eq_getElem hia] at hu
      simp only [Option.map_some, Option.some.injEq] at hu
      obtain ⟨w, hw, rw'⟩ := r.get (i := i) (x := u) (by rw [List.getElem?_eq_getElem hia, hu])
      refine ⟨w, rw', ?_⟩
      have hyp : ps[i]? = some y := by
        have := slotOf_name hi
        rw [hO.pre, List.getElem?_take, if_pos (by omega)]; exact this
      have hmem : (y, w) ∈ ps.zip ws := by
        rw [List.mem_iff_getElem?]
        exact ⟨i, by rw [List.getElem?_zip_eq_some]; exact ⟨hyp, hw⟩⟩
      have hyps : y ∈ ps := List.mem_of_getElem? hyp
      rcases isTgt_kind (hO.tgt y hyps) with e | e
      · exact .inl ⟨(ekin y).trans e, _, x.toInCall.ns, bindL_mem ((ekin y).trans e) (by rw [hzip]; exact hpsn) hmem⟩
      · obtain ⟨c', hc'⟩ := hcell (L + 1) y e
        have hc'' : env.cells.lookup y = some c' := by rw [ecel]; exact hc'
        have := x.cell y c' hc''
        rw [bindC_mem ((ekin y).trans e) (by rw [hzip]; exact hpsn) hmem] at this
        exact .inr ⟨.inl ((ekin y).trans e), c', hc'', this⟩
    · rcases ob with rfl | ⟨y, hy⟩
      · obtain ⟨o, _, _, e, _⟩ := x.toInCall.ns; rw [e]; simp
      · obtain ⟨o, e, _⟩ := x.cell y b hy; rw [e]; simp
  have hA' : AOk k (A.deeper env) := ⟨hA.handled, by show A.depth + 1 + k < 900; have := hA.depth; omega, by show A.units + 3 + 10 * k < 9000; have := hA.units; omega⟩
  refine wpAny_mono (hb env _ H fl ρ' H1 (A.deeper env) s₁ W ev hE f₁ hA' S₁) (fun fl' s₂ p => ?_) fun _ _ x => x.elim
  obtain ⟨W2, t2, S2, q2, p2⟩ := p
  have t : Tr W W2 s.heap s₂.heap := (Tr.grow keep).fresh t2 fun b ob => own b ob.own
  have q : Rest s s₂ := by
    obtain ⟨h₀, tk, e⟩ := x.toInCall.same
    have : Rest s s₁ := by rw [e]; exact ⟨rfl, rfl, rfl⟩
    exact this.trans q2
  cases fl with
  | next =>
    obtain ⟨rfl, _⟩ := p2
    exact ⟨.none, rfl, finish_sound S t S2 RV.none q hfin⟩
  | ret v =>
    obtain ⟨w, rfl, rw'⟩ := p2
    exact ⟨w, rfl, finish_sound S t S2 rw' q hfin⟩

theorem evalS_len : True := trivial
end
end Mine
end

section
set_option autoImplicit false
namespace Mine
open PySem

theorem F_sub (a b : String) (v : Bool) (h : isSubtype (.type a) (.type b) = pure v) : isSubtype (.type a) (.type b) = pure v := h

section
variable {X : Cx} {G : Glob} {c : Ctx} {k : Nat} {ns : List Str} {sc : Scope} {W W' : Wd} {s s' : Shared} {H H' : Hp} {ρ : Loc} {v : V} {w : Value} {A : Around} {env : Env}

theorem ans_none (t : Ty) : Answers (fun s => s.TypeIs .none "NoneType") .none (.type (tyName t)) (isTy t .none) := by
  cases t <;> first
    | exact Answers.of_false_none (by decide +kernel) F.isi_meta_int F.sub_NoneType_int
    | exact Answers.of_false_none (by decide +kernel) F.isi_meta_bool F.sub_NoneType_bool
    | exact Answers.of_false_none (by decide +kernel) F.isi_meta_str F.sub_NoneType_str
    | exact Answers.of_false_none (by decide +kernel) F.isi_meta_tuple F.sub_NoneType_tuple
    | exact Answers.of_false_none (by decide +kernel) F.isi_meta_list F.sub_NoneType_list
theorem ans_bool (b : Bool) (t : Ty) : Answers (fun s => s.TypeIs (.bool b) "bool") (.bool b) (.type (tyName t)) (isTy t (.bool b)) := by
  cases t
  · exact Answers.of_true F.isi_meta_int (by rw [isSubtype_type]; kernel_rfl)
  · exact Answers.of_true F.isi_meta_bool (by rw [isSubtype_type]; kernel_rfl)
  · exact Answers.of_false_bool (by decide +kernel) F.isi_meta_str F.sub_bool_str
  · exact Answers.of_false_bool (by decide +kernel) F.isi_meta_tuple F.sub_bool_tuple
  · exact Answers.of_false_bool (by decide +kernel) F.isi_meta_list F.sub_bool_list
theorem ans_int (i : Int) (u : Tok) (t : Ty) : Answers (fun s => s.TypeIs (.int i u) "int") (.int i u) (.type (tyName t)) (isTy t (.int i)) := by
  cases t
  · exact Answers.of_true F.isi_meta_int (by rw [isSubtype_type]; kernel_rfl)
  · exact Answers.of_false_int (by decide +kernel) F.isi_meta_bool F.sub_int_bool
  · exact Answers.of_false_int (by decide +kernel) F.isi_meta_str F.sub_int_str
  · exact Answers.of_false_int (by decide +kernel) F.isi_meta_tuple F.sub_int_tuple
  · exact Answers.of_false_int (by decide +kernel) F.isi_meta_list F.sub_int_list
theorem ans_str (x : Str) (u : Tok) (t : Ty) : Answers (fun s => s.TypeIs (.str x u) "str") (.str x u) (.type (tyName t)) (isTy t (.str x)) := by
  cases t
  · exact Answers.of_false_str (by decide +kernel) F.isi_meta_int F.sub_str_int
  · exact Answers.of_false_str (by decide +kernel) F.isi_meta_bool F.sub_str_bool
  · exact Answers.of_true F.isi_meta_str (by rw [isSubtype_type]; kernel_rfl)
  · exact Answers.of_false_str (by decide +kernel) F.isi_meta_tuple F.sub_str_tuple
  · exact Answers.of_false_str (by decide +kernel) F.isi_meta_list F.sub_str_list
theorem ans_tuple (a : Addr) (t : Ty) : Answers (fun s => s.TypeIs (.ref a) "tuple") (.ref a) (.type (tyName t)) (decide (t = .tuple)) := by
  cases t
  · exact Answers.of_false_tuple (by decide +kernel) F.isi_meta_int F.sub_tuple_int
  · exact Answers.of_false_tuple (by decide +kernel) F.isi_meta_bool F.sub_tuple_bool
  · exact Answers.of_false_tuple (by decide +kernel) F.isi_meta_str F.sub_tuple_str
  · exact Answers.of_true F.isi_meta_tuple (by rw [isSubtype_type]; kernel_rfl)
  · exact Answers.of_false_tuple (by decide +kernel) F.isi_meta_list F.sub_tuple_list
theorem ans_list (a : Addr) (t : Ty) : Answers (fun s => s.TypeIs (.ref a) "list") (.ref a) (.type (tyName t)) (decide (t = .list)) := by
  cases t
  · exact Answers.of_false_list (by decide +kernel) F.isi_meta_int F.sub_list_int
  · exact Answers.of_false_list (by decide +kernel) F.isi_meta_bool F.sub_list_bool
  · exact Answers.of_false_list (by decide +kernel) F.isi_meta_str F.sub_list_str
  · exact Answers.of_false_list (by decide +kernel) F.isi_meta_tuple F.sub_list_tuple
  · exact Answers.of_true F.isi_meta_list (by rw [isSubtype_type]; kernel_rfl)

theorem isi_fact (S : SR X.B W H s.heap) {x : V} {u : Value} (r : RV W x u) {t₀ : Ty} {b₀ : Bool} (e : isTyH H t₀ x = some b₀) :
    ∃ (Tx : String) (g : Ty → Bool), s.TypeIs u Tx ∧ (∀ t, isTyH H t x = some (g t)) ∧ ∀ t, Answers (fun s => s.TypeIs u Tx) u (.type (tyName t)) (g t) := by
  cases x with
  | none => simp only [RV] at r; subst r; exact ⟨_, _, rfl, fun t => rfl, ans_none⟩
  | bool b => simp only [RV] at r; subst r; exact ⟨_, _, rfl, fun t => rfl, ans_bool b⟩
  | int i => simp only [RV] at r; obtain ⟨tk, rfl⟩ := r; exact ⟨_, _, rfl, fun t => rfl, ans_int i tk⟩
  | str x => simp only [RV] at r; obtain ⟨tk, rfl⟩ := r; exact ⟨_, _, rfl, fun t => rfl, ans_str x tk⟩
  | tup xs =>
    simp only [RV] at r; obtain ⟨a, us, n, rfl, g, _⟩ := r
    exact ⟨_, fun t => decide (t = .tuple), ⟨_, S.froz _ _ g, rfl⟩, fun t => by cases t <;> rfl, ans_tuple a⟩
  | lst xs =>
    simp only [RV] at r; obtain ⟨a, us, n, rfl, g, _⟩ := r
    exact ⟨_, fun t => decide (t = .list), ⟨_, S.froz _ _ g, rfl⟩, fun t => by cases t <;> rfl, ans_list a⟩
  | ref i =>
    simp only [RV] at r
    obtain ⟨a, rfl, g⟩ := r
    simp only [isTyH] at e
    split at e
    · rename_i xs hx
      obtain ⟨us, n, g', _⟩ := S.objs i _ a hx g
      exact ⟨_, fun t => decide (t = .list), ⟨_, g', rfl⟩, fun t => by simp only [isTyH, hx], ans_list a⟩
    · cases e

theorem prim_isiT (S : SR X.B W H s.heap) {x : V} {u : Value} (r : RV W x u) {t : Ty} {ts : List Ty} {b : Bool} (e : anyO (fun t => isTyH H t x) (t :: ts) = some b) {tp : Addr}
    (ht : s.heap.get? tp = some { cls := .type "tuple", data := .seq ((t :: ts).map fun t => Value.type (tyName t)).toArray }) :
    wpAny X.M A (call (.builtin "isinstance") [u, .ref tp]) (PV X W s H (.bool b)) NoE s := by
  have : ∃ b₀, isTyH H t x = some b₀ := by
    simp only [anyO] at e
    split at e
    · rename_i h; exact ⟨_, h⟩
    · exact ⟨_, e⟩
  obtain ⟨b₀, hb₀⟩ := this
  obtain ⟨Tx, g, hT, hg, ha⟩ := isi_fact S r hb₀
  have all : ∀ ts : List Ty, AnswersAll (fun s => s.TypeIs u Tx) u (ts.map fun t => Value.type (tyName t)) (ts.map g) := by
    intro ts
    induction ts with
    | nil => exact AnswersAll.nil
    | cons t ts ih => exact AnswersAll.cons (ha t) ih
  have anyg : ∀ ts : List Ty, anyO (fun t => isTyH H t x) ts = some ((ts.map g).any id) := by
    intro ts
    induction ts with
    | nil => rfl
    | cons t ts ih =>
      simp only [anyO, hg t]
      cases hgt : g t with
      | true => simp [hgt]
      | false => simp only [ih, List.map_cons, List.any_cons, hgt, id, Bool.false_or]
  rw [anyg] at e
  cases e
  exact IsiPair.tupleOf (all (t :: ts)) hT ht fun tk => PV.here S RV.bool

/-- isinstance(a, e2) -/
theorem star_one {e : Expr} (h : plainE e = true) {es : List Expr} {env : Env} : starEach (e :: es) env = (false, eval e env) :: starEach es env := by
  cases e <;> first | rfl | (exact absurd (show false = true from h) Bool.false_ne_true)
theorem isi_call (hB : BaseOk X) {f : Str} (hv : X.gv f = some (.builtin "isinstance")) (hg : isGlob sc f = true) {a e2 : Expr} {ca : E} (ha : SimE X c k ns sc a ca) (hp : plainE e2 = true) {p pos : Pos} {x : V} {H1 : Hp} (e1 : evalE c ca ρ H = some (x, H1))
    (hE : EnvOk X sc env) (fr : FR W env ns sc ρ s.heap) (hA : AOk k A) (S : SR X.B W H s.heap) {Q : Value → Shared → Prop}
    (h2 : ∀ u s' W', Tr W W' s.heap s'.heap → SR X.B W' H1 s'.heap → RV W' x u → Rest s s' → wpAny X.M A (eval e2 env) (fun y s'' => wpAny X.M A (call (.builtin "isinstance") [u, y]) Q NoE s'') NoE s') :
    wpAny X.M A (eval (.Call (.Name f p) [a, e2] [] pos) env) Q NoE s := by
  have hst : backTo pos (starEach [a, e2] env) = [(false, eval a env), (false, eval e2 env)] := by
    rw [star_one ha.plain, star_one hp]
    rfl
  refine wpAny_Call_Name_kw (glob_name hB hE S hg hv ?_)
  show wpAny X.M A (callWith pos (.builtin "isinstance") [] (backTo pos (starEach [a, e2] env)) []) _ _ s
  refine Calls.callWith_builtin (by rw [hst]; rfl) ?_
  rw [hst]
  refine Calls.evalArgs_plain (Calls.spliced_cons (wpAny_mono (ha.val env ρ H x H1 A s W e1 hE fr hA S) (fun u s₁ p => ?_) fun _ _ x => x))
  obtain ⟨W1, t1, S1, r1, q1⟩ := p
  exact Calls.spliced_cons (wpAny_mono (h2 u s₁ W1 t1 S1 r1 q1) (fun y s₂ h => Calls.spliced_nil h) fun _ _ x => x)

theorem tyOf_name {e : Expr} {t : Ty} (h : tyOf sc e = some t) : ∃ x p, e = .Name x p ∧ isGlob sc x = true ∧ tyNm x = some t := by
  cases e <;> simp only [tyOf, reduceCtorEq] at h
  split at h
  · rename_i hg; exact ⟨_, _, rfl, hg, h⟩
  · cases h

theorem sim_isi1 (hB : BaseOk X) (hK : Glk X G) {f : Str} (hv : X.gv f = some (.builtin "isinstance")) (hg : isGlob sc f = true) {a e2 : Expr} {ca : E} (ha : SimE X c k ns sc a ca) {t : Ty} (ht : tyOf sc e2 = some t) {p pos : Pos} :
    SimV X c k ns sc (.Call (.Name f p) [a, e2] [] pos) (.prim (.isinst [t]) [ca]) := by
  intro env ρ H v H' A s W ev hE fr hA S
  obtain ⟨y, q, rfl, hgy, hty⟩ := tyOf_name ht
  simp only [evalE, evalEs] at ev
  split at ev
  · rename_i vs H1 e0
    split at e0
    · rename_i x H2 e1
      cases e0
      rw [Option.map_eq_some_iff] at ev
      obtain ⟨v', ev, e3⟩ := ev
      cases e3
      simp only [primV, isinstV] at ev
      rw [Option.map_eq_some_iff] at ev
      obtain ⟨b, ev, rfl⟩ := ev
      refine isi_call hB hv hg ha rfl e1 hE fr hA S fun u s₁ W1 t1 S1 r1 q1 => ?_
      refine glob_name hB hE S1 hgy (hK.ty y t hty) ?_
      have : isTyH H' t x = some b := by
        simp only [anyO] at ev
        split at ev
        · rename_i h; cases ev; exact h
        · exact ev
      exact wpAny_mono (prim_isi1 S1 r1 this) (fun _ _ p => PV.trans t1 q1 p) fun _ _ x => x
    · cases e0
  · cases ev

theorem types_spliced (hB : BaseOk X) (hK : Glk X G) (hE : EnvOk X sc env) : ∀ {es : List Expr} {ts : List Ty} {s : Shared}, tysOf sc es = some ts → SR X.B W H s.heap → ∀ {Q : List Value → Shared → Prop}, Q (ts.map fun t => Value.type (tyName t)) s →
    wpAny X.M A (spliced (es.map fun e => (false, eval e env))) Q NoE s
  | [], ts, s, h, S, Q, q => by simp only [tysOf, Option.some.injEq] at h; subst h; exact Calls.spliced_nil q
  | e :: es, ts, s, h, S, Q, q => by
    simp only [tysOf] at h
    split at h
    · rename_i t ts' ht hts
      cases h
      obtain ⟨y, p, rfl, hgy, hty⟩ := tyOf_name ht
      exact Calls.spliced_cons (glob_name hB hE S hgy (hK.ty y t hty) (types_spliced hB hK hE hts S q))
    · cases h

theorem types_star {es : List Expr} {ts : List Ty} (h : tysOf sc es = some ts) (env : Env) : starEach es env = es.map fun e => (false, eval e env) := by
  induction es generalizing ts with
  | nil => rfl
  | cons e es ih =>
    simp only [tysOf] at h
    split at h
    · rename_i t ts' ht hts
      obtain ⟨y, p, rfl, _, _⟩ := tyOf_name ht
      simp only [starEach, ih hts, List.map_cons]
    · cases h

theorem sim_isiT (hB : BaseOk X) (hK : Glk X G) {f : Str} (hv : X.gv f = some (.builtin "isinstance")) (hg : isGlob sc f = true) {a : Expr} {es : List Expr} {ca : E} (ha : SimE X c k ns sc a ca) {ts : List Ty} (ht : tysOf sc es = some ts) (hne : ts ≠ []) (hl : ts.length ≤ sizeLine) {kk : Nat} {p tp pos : Pos} :
    SimV X c k ns sc (.Call (.Name f p) [a, .Tuple es kk tp] [] pos) (.prim (.isinst ts) [ca]) := by
  intro env ρ H v H' A s W ev hE fr hA S
  simp only [evalE, evalEs] at ev
  split at ev
  · rename_i vs H1 e0
    split at e0
    · rename_i x H2 e1
      cases e0
      rw [Option.map_eq_some_iff] at ev
      obtain ⟨v', ev, e3⟩ := ev
      cases e3
      simp only [primV, isinstV] at ev
      rw [Option.map_eq_some_iff] at ev
      obtain ⟨b, ev, rfl⟩ := ev
      refine isi_call hB hv hg ha rfl e1 hE fr hA S fun u s₁ W1 t1 S1 r1 q1 => ?_
      refine PyProof.Rows.Tuple_ ?_
      rw [types_star ht, backTo_plain]
      refine types_spliced hB hK hE ht S1 (wpAny_newTuple ?_ (by rw [List.length_map]; exact hl))
      cases ts with
      | nil => exact absurd rfl hne
      | cons t ts =>
        have hk : ∀ b o, s₁.heap.get? b = some o → (s₁.heap.push (sObj "tuple" ((t :: ts).map fun t => Value.type (tyName t)).toArray 0)).get? b = some o := fun b o e => Heap.get?_push_of_some _ e
        refine wpAny_mono (prim_isiT (s := { s₁ with heap := s₁.heap.push (sObj "tuple" ((t :: ts).map fun t => Value.type (tyName t)).toArray 0) }) (S1.grow hk) r1 ev (Heap.get?_push_size _ rfl)) (fun _ _ p => PV.trans (s' := { s₁ with heap := s₁.heap.push (sObj "tuple" ((t :: ts).map fun t => Value.type (tyName t)).toArray 0) }) (t1.trans (Tr.grow hk)) ⟨q1.gens, q1.drawn, q1.os⟩ p) fun _ _ x => x
    · cases e0
  · cases ev
end
end Mine
end

section
set_option autoImplicit false
namespace Mine
open PySem PySem.Spec
set_option maxRecDepth 100000

theorem strK_is {prog : Program} {w : World} (x : Str) (t : Tok) : (strKind prog w).is x (.str x t) = true := by simp [strKind, Value.isStrOf]
noncomputable def firstMetS (val : Nat → Str) (i : Nat) : List Str := ((List.range i).map val).foldl sdd []
theorem firstMetS_succ (val : Nat → Str) (i : Nat) : firstMetS val (i + 1) = sdd (firstMetS val i) (val i) := by
  unfold firstMetS; rw [List.range_succ, List.map_append, List.foldl_append]; rfl
theorem firstMetS_le (val : Nat → Str) : ∀ i, (firstMetS val i).length ≤ i
  | 0 => Nat.le_refl _
  | i + 1 => by
    rw [firstMetS_succ]; unfold sdd
    have ih := firstMetS_le val i
    split
    · omega
    · rw [List.length_append, List.length_singleton]; omega
theorem sdd_any (σ : List Str) (v k : Str) : (sdd σ v).any (· == k) = (σ.any (· == k) || decide (k = v)) := by
  unfold sdd
  by_cases h : σ.any (· == v) = true
  · rw [if_pos h]
    by_cases e : k = v
    · subst e; rw [h]; simp
    · simp [e]
  · rw [if_neg h, List.any_append]
    by_cases e : k = v
    · subst e; simp
    · have hb : (v == k) = false := by simpa [beq_iff_eq] using (fun h' : v = k => e h'.symm)
      simp [hb, e]
theorem sdd_length (σ : List Str) (v : Str) : (sdd σ v).length = if σ.any (· == v) then σ.length else σ.length + 1 := by
  unfold sdd; split <;> simp
theorem strs_at : ∀ {vs : List Value} {ns : List Str}, PyProof.Rows.StrsAre vs ns → ∀ (i : Nat) (v : Value), vs[i]? = some v → ∃ t, v = .str (ns.getD i Str.empty) t
  | _, _, .nil, i, v, h => by simp at h
  | _, _, .cons n t hr, 0, v, h => by simp at h; exact ⟨t, by rw [← h]; rfl⟩
  | _, _, .cons n t hr, i + 1, v, h => by
    simp only [List.getElem?_cons_succ] at h
    obtain ⟨t', e⟩ := strs_at hr i v h
    exact ⟨t', by rw [e]; rfl⟩

section
variable {prog : Program} {w : World} {A : Around} {R : Result → Shared → Prop} {I : Addr} {fp wr : List Addr} {G : Array GenState → Array GenState → Prop} {n : Nat} {P : Nat → Value → Prop} {St : Nat → Shared → Prop}

theorem set_loopS (W : WalksS prog w A.in1 I fp wr G n P St) (S : Addr) (hSf : S ∉ fp)
    (val : Nat → Str) (hval : ∀ i v, P i v → ∃ t, v = .str (val i) t) (hb : n + 1 < scanBound) :
    ∀ (k i : Nat) (s : Shared), n - i = k → i ≤ n → St i s →
      s.heap.SetOf (strKind prog w) S (fun k' => (firstMetS val i).any (· == k')) (firstMetS val i).length →
      (∀ s', Moved (S :: wr) G s s' → s'.heap.SetOf (strKind prog w) S (fun k' => (firstMetS val n).any (· == k')) (firstMetS val n).length → R (.ok (.ret .none)) s') →
      codeAny (model prog w) A (.builtin "set.update.loop" ⟨[.ref S, .ref I], []⟩) R s := by
  have hSw : S ∉ wr := fun h => hSf (W.sub _ h)
  have hsub : ∀ b ∈ wr, b ∈ S :: wr := fun b hb => List.mem_cons_of_mem _ hb
  intro k
  induction k with
  | zero =>
    intro i s hk hi hst hS hR
    have hin : i = n := by omega
    subst hin
    refine codeAny_builtin PyProof.Rows.F.entry_set_update_loop ?_
    rw [Around.under_plainId PyProof.Rows.F.plain_set_update_loop _]
    show wpAny _ A.in1 (pyNext (.ref I) >>= _) _ _ s
    refine wpAny_bind (W.done s _ _ hst fun s' hm => ?_)
    show wpAny _ A.in1 (ret Value.none) _ _ s'
    exact wpAny_pure (hR s' (hm.mono hsub) (by
      obtain ⟨o, es, ep, t, ho, rest⟩ := hS
      exact ⟨o, es, ep, t, hm.heap S _ hSw ho, rest⟩))
  | succ k ih =>
    intro i s hk hi hst hS hR
    have hlt : i < n := by omega
    refine codeAny_builtin PyProof.Rows.F.entry_set_update_loop ?_
    rw [Around.under_plainId PyProof.Rows.F.plain_set_update_loop _]
    show wpAny _ A.in1 (pyNext (.ref I) >>= _) _ _ s
    refine wpAny_bind (W.item i s _ _ hlt hst fun v s' hP hst' hm => ?_)
    obtain ⟨t, rfl⟩ := hval i v hP
    have hS' : s'.heap.SetOf (strKind prog w) S (fun k' => (firstMetS val i).any (· == k')) (firstMetS val i).length := by
      obtain ⟨o, es, ep, tb, ho, rest⟩ := hS
      exact ⟨o, es, ep, tb, hm.heap S _ hSw ho, rest⟩
    show wpAny _ A.in1 (holding [Value.str (val i) t] (setAdd S (.str (val i) t)) >>= _) _ _ s'
    refine wpAny_bind (wpAny_holding ?_)
    unfold setAdd
    refine wpAny_holding ?_
    refine wpAny_bind ((strKind prog w).pyHash (k := val i) (strK_is _ _) ?_)
    have hroom : (firstMetS val i).length + 1 < scanBound := by have := firstMetS_le val i; omega
    refine wpAny_setAddHashed_of (knd := strKind prog w) (s := { s' with toks := s'.toks + 1 }) (strK_is _ _) rfl hS' hroom fun h' hsb hS2 => ?_

    have hSi : h'.SetOf (strKind prog w) S (fun k' => (firstMetS val (i + 1)).any (· == k')) (firstMetS val (i + 1)).length :=
      PyProof.Rows.SetOf_congr hS2 (fun k' => by rw [firstMetS_succ, sdd_any]) (by rw [firstMetS_succ, sdd_length])
    refine wpAny_pure ⟨plainId_quiet PyProof.Rows.F.plain_set_update_loop _, ih (i + 1) _ (by omega) hlt (W.frame _ s' _ _ hst' (Nat.le_succ _) fun b hb o e => ?_) hSi fun s'' hm'' hS'' => ?_⟩
    · rw [hsb.2 b (fun h : b = S => hSf (by rw [← h]; exact hb))]; exact e
    · refine hR s'' (Moved.trans W.gtrans ((hm.mono hsub).then_heap (Nat.le_succ _) fun b o hb e => ?_) hm'') hS''
      rw [hsb.2 b (fun h : b = S => hb (by rw [h]; exact List.mem_cons_self))]; exact e
end
section
variable {prog : Program} {w : World} {A : Around} {E : Value → Shared → Prop} {s : Shared}
set_option maxHeartbeats 3200000 in
theorem call_set_strs {l : Addr} {items : Array Value} {ns : List Str} {Q : Value → Shared → Prop}
    (hh : A.handled = none) (hl : s.heap.IsList l items) (hi : PyProof.Rows.StrsAre items.toList ns) (hb : items.size + 1 < scanBound)
    (h : ∀ (h' : Heap) (tk : Nat), h'.SetOf (strKind prog w) s.heap.objs.size (fun k' => (firstMetS (fun i => ns.getD i Str.empty) items.size).any (· == k')) (firstMetS (fun i => ns.getD i Str.empty) items.size).length →
      (∀ b o, b < s.heap.objs.size → s.heap.get? b = some o → h'.get? b = some o) → Q (.ref s.heap.objs.size) { s with heap := h', toks := tk }) :
    wpAny (model prog w) A (call (.type "set") [.ref l]) Q E s := by
  obtain ⟨c, tl, hmro⟩ := F.called_set.mro
  have hmade := F.called_set.made
  have hsub := F.called_set.sub
  refine wpAny_call (codeAny_of_tree ?_)
  show wpAny _ _ (callAny (.type "set") _) _ _ _
  refine wpAny_pure ⟨Code.quiet_builtin _ (by decide +kernel), codeAny_builtin F.entry_type_call ?_⟩
  rw [Around.under_plain (weight_type_call_type "set" [.ref l] []) rfl]
  have h1 := F.called_set.notType
  have h2 := F.called_set.canCreate
  have hct := F.typeCall_set_1 (.ref l)
  repeat (any_goals (first | assumption | wp_step))

  refine codeAny_mono (code_set_new_1 (.ref l) (E := E) (Q₁ := fun obj s₁ => ∃ led : Bool, obj = .ref s.heap.objs.size ∧ s₁ = { s with heap := s.heap.push { cls := .type "set", dict := none, data := .set #[] 0 (.fresh 0 0 led) } }) fun led => ⟨led, rfl, rfl⟩) fun r s₁ hr => ?_
  cases r with
  | error e => exact hr
  | ok fl =>
    cases fl with
    | ret obj =>
      obtain ⟨led, rfl, rfl⟩ := hr
      have hS : (s.heap.push { cls := .type "set", dict := none, data := .set #[] 0 (.fresh 0 0 led) }).get? s.heap.objs.size = some { cls := .type "set", dict := none, data := .set #[] 0 (.fresh 0 0 led) } := Heap.get?_push_size _ rfl
      have hT : Shared.TypeIs { s with heap := s.heap.push { cls := .type "set", dict := none, data := .set #[] 0 (.fresh 0 0 led) } } (.ref s.heap.objs.size) "set" := ⟨_, hS, rfl⟩
      have hli := F.called_set.init.lookup
      have hbi := F.called_set.init.bind (.ref s.heap.objs.size)
      repeat (any_goals (first | assumption | wp_step))

      refine codeAny_mono (codeAny_call_builtin (R := wants (fun r s₂ => r = .none ∧ ∃ h' tk, s₂ = { s with heap := h', toks := tk } ∧
          h'.SetOf (strKind prog w) s.heap.objs.size (fun k' => (firstMetS (fun i => ns.getD i Str.empty) items.size).any (· == k')) (firstMetS (fun i => ns.getD i Str.empty) items.size).length ∧
          (∀ b o, b < s.heap.objs.size → s.heap.get? b = some o → h'.get? b = some o)) E) F.called_set.init.plain F.entry_set_init (check_set_init_1 hT ?_)) fun r₂ s₂ hr₂ => ?_
      · obtain ⟨ol, hol, hcl, nl, hdl⟩ := hl
        obtain ⟨ocls, odict, odata, oslots⟩ := ol
        simp only at hcl hdl
        subst hcl; subst hdl
        have hol' : (s.heap.push { cls := .type "set", dict := none, data := .set #[] 0 (.fresh 0 0 led) }).get? l = some { cls := .type "list", dict := odict, data := .seq items nl, slots := oslots } := Heap.get?_push_of_some _ hol
        have hsls := F.sub_list_set
        have hslf := F.sub_list_frozenset
        have hne : (Value.type "list" == Value.type "dict") = false := by decide
        have hl1 : (s.heap.push { cls := .type "set", dict := none, data := .set #[] 0 (.fresh 0 0 led) }).IsList l items := ⟨_, hol', rfl, nl, rfl⟩
        unfold Builtin.«set.__init__» noKeywords Builtin.Frozenset.updateFrom
        generalize hPI : pyIter = PI
        wp_walk
        subst hPI

        refine wpAny_pyIter_list hl1 ?_
        refine wpAny_bind (wpAny_runValue ?_)
        have hlS : l < s.heap.objs.size := Heap.lt_size hol
        have hh3 : A.in1.in1.in1.handled = none := by simp [hh]
        have hneI : l ≠ (s.heap.push { cls := .type "set", dict := none, data := .set #[] 0 (.fresh 0 0 led) }).objs.size := by
          rw [Heap.size_push]; exact Nat.ne_of_lt (Nat.lt_succ_of_lt hlS)
        have hSf : s.heap.objs.size ∉ [(s.heap.push { cls := .type "set", dict := none, data := .set #[] 0 (.fresh 0 0 led) }).objs.size, l] := by
          rw [Heap.size_push]; simp only [List.mem_cons, List.mem_singleton, List.not_mem_nil, or_false, not_or]
          exact ⟨Nat.ne_of_lt (Nat.lt_succ_self _), Nat.ne_of_gt hlS⟩
        have hval : ∀ (i : Nat) (v : Value), items[i]? = some v → ∃ t, v = .str ((fun i => ns.getD i Str.empty) i) t := fun i v hv =>
          strs_at hi i v (by rw [Array.getElem?_toList]; exact hv)
        refine set_loopS ((Walks.list hh3 _ l hneI items).toS) s.heap.objs.size
          hSf (fun i => ns.getD i Str.empty) hval hb (items.size - 0) 0 _ (by omega) (Nat.zero_le _)
          ⟨⟨_, Heap.get?_push_size _ rfl, rfl, rfl⟩, (hl1.push _)⟩ ?hS0 ?hR
        case hS0 =>
          have hget : ((s.heap.push { cls := .type "set", dict := none, data := .set #[] 0 (.fresh 0 0 led) }).push { cls := .type "list_iterator", data := .fields #[.ref l, .int 0 0] }).get? s.heap.objs.size
              = some { cls := .type "set", dict := none, data := .set #[] 0 (.fresh 0 0 led) } := Heap.get?_push_of_some _ hS
          exact PyProof.Rows.SetOf_congr ((PyProof.Rows.setObjOf_fresh (knd := strKind prog w) led).setOf hget (by unfold scanBound; omega)) (fun _ => rfl) rfl
        case hR =>
          intro s' hm hS'
          obtain ⟨h', g', d', tk', os'⟩ := s'
          have eg : g' = s.gens := hm.gens
          have ed : d' = s.drawn := hm.drawn
          have eo : os' = s.os := hm.os
          subst eg; subst ed; subst eo
          show wpAny _ _ _ _ _ _
          refine wpAny_pure ?_
          show wpAny _ _ (ret Value.none) _ _ _
          refine wpAny_pure ⟨rfl, h', tk', rfl, hS', fun b o hb e => ?_⟩
          have hb1 : b ≠ s.heap.objs.size := Nat.ne_of_lt hb
          have hb2 : b ≠ (s.heap.push { cls := .type "set", dict := none, data := .set #[] 0 (.fresh 0 0 led) }).objs.size := by
            rw [Heap.size_push]; exact Nat.ne_of_lt (Nat.lt_succ_of_lt hb)
          exact hm.heap b o (by simp only [List.mem_cons, List.mem_singleton, List.not_mem_nil, or_false, not_or]; exact ⟨hb1, hb2⟩) (Heap.get?_push_of_some _ (Heap.get?_push_of_some _ e))

      · cases r₂ with
        | error e => exact hr₂
        | ok fl₂ =>
          cases fl₂ with
          | ret r =>
            obtain ⟨rfl, h', tk, rfl, hS', hk'⟩ := hr₂
            repeat (any_goals (first | assumption | wp_step))
            exact h _ _ hS' hk'
          | _ => exact hr₂.elim
    | _ => exact hr.elim
end
end Mine
end

section
set_option autoImplicit false
namespace Mine
open PySem PySem.W PyProof.Rows

section
variable {prog : Program} {w : World} {A : Around} {E : Value → Shared → Prop} {s : Shared}
theorem list_sort_own {a : Addr} {vs : List Value} {n : Nat} {P : PySem.Fin → Shared → Prop} {κ : SortKind} {ans : Nat → Nat → Bool} (ho : s.heap.get? a = some (seqObj "list" vs.toArray n)) (h2 : 2 ≤ vs.length) (h64 : vs.length < 64)
    (hkind : ∀ h' (Q : SortKind → Shared → Prop), (∀ b o, b ≠ a → s.heap.get? b = some o → h'.get? b = some o) → Q κ { s with heap := h' } → wpAny (model prog w) A (keyKind' vs.toArray) Q (fun _ _ => False) { s with heap := h' })
    (hask : ∀ h' i j tk (C : Bool → Shared → Prop), i < vs.length → j < vs.length → (∀ b o, b ≠ a → s.heap.get? b = some o → h'.get? b = some o) → (∀ tk', C (ans i j) { s with heap := h', toks := tk' }) → kas_ask prog w A κ vs i j C { s with heap := h', toks := tk })
    (hP : ∀ h' c tk, (∀ b o, b ≠ a → s.heap.get? b = some o → h'.get? b = some o) → h'.get? a = some (seqObj "list" (List.toArray ((runT ans (kas_sort vs.length)).toList.map fun i => vs.getD i Value.none)) c) → P (.done (.ret .none)) { s with heap := h', toks := tk }) :
    wpAny (model prog w) A (Builtin.«list.sort» ⟨[.ref a], []⟩) P E s := by
  have s1 := Heap.SameBut.update s.heap a (Obj.mapSeq fun _ => (#[] : Array Value))
  obtain ⟨e1, ho1⟩ : ∃ e1, (s.heap.update a (Obj.mapSeq fun _ => (#[] : Array Value))).get? a = some (seqObj "list" #[] e1) := ⟨_, get?_update_seq ho fun _ => #[]⟩
  generalize hH : ((s.heap.update a (Obj.mapSeq fun _ => (#[] : Array Value))).push (seqObj "tuple" vs.toArray 0)).push (seqObj "list" #[] 0) = h1
  have k1 : ∀ b o, b ≠ a → s.heap.get? b = some o → h1.get? b = some o := fun b o nb e => by
    rw [← hH]; exact Heap.get?_push_of_some _ (Heap.get?_push_of_some _ (s1.extBut b o nb e))
  have a1 : h1.get? a = some (seqObj "list" #[] e1) := by rw [← hH]; exact Heap.get?_push_of_some _ (Heap.get?_push_of_some _ ho1)
  rw [list_sort_plain]
  refine wpAny_bind (listItems_at ho rfl ?_)
  refine wpAny_bind (listUpdate_at ho rfl ?_ (by rw [List.size_toArray, sizeLine_eq]; omega) (Nat.zero_le _))
  refine wpAny_bind (seqEpoch_at ho1 rfl ?_)
  refine wpAny_bind (wpAny_newTuple ?_ (by show vs.length ≤ _; rw [sizeLine_eq]; omega))
  refine wpAny_bind (wpAny_newList ?_ (Nat.zero_le _))
  refine wpAny_holding ?_
  show wpAny (model prog w) A _ P E { s with heap := ((s.heap.update a (Obj.mapSeq fun _ => (#[] : Array Value))).push (seqObj "tuple" vs.toArray 0)).push (seqObj "list" #[] 0) }
  rw [hH]
  dsimp only
  have hn2 : ¬ vs.toArray.size < 2 := by rw [List.size_toArray]; omega
  rw [if_neg hn2, if_neg hn2]
  refine wpAny_bind (wpAny_mono (hkind h1 (fun κ' s' => κ' = κ ∧ s' = { s with heap := h1 }) k1 ⟨rfl, rfl⟩) (fun κ' s0 hk => ?_) fun _ _ x => x.elim)
  obtain ⟨rfl, rfl⟩ := hk
  refine wpAny_bind (wpAny_mono (kat_run (Q := fun st' s' => ∃ p : Array Nat, ∃ tk, p.size = vs.length ∧ arrOf st' = p.map (kas_item (vs.toArray.zip vs.toArray)) ∧ failedOf st' = none ∧ p = runT ans (kas_sort vs.length) ∧ s' = { s with heap := h1, toks := tk })
    (G := fun p s' => p = runT ans (kas_sort vs.length) ∧ ∃ tk, s' = { s with heap := h1, toks := tk })
    rfl h2 h64 (fun p' st' s' a1 a2 a3 a4 => ⟨p', a4.2.choose, a1, a2, a3, a4.1, a4.2.choose_spec⟩)
    (kas_detB (s := { s with heap := h1 }) (ans := ans) (fun i j tk C hi hj hC => hask h1 i j tk C hi hj k1 hC) _ s.toks _ (bnd_sort (by omega)) fun tk' => ⟨rfl, tk', rfl⟩)) ?_ fun _ _ e => e)
  rintro ⟨⟨⟩, st'⟩ s' ⟨p, tk, hp, har, hf, rfl, rfl⟩
  dsimp only
  have hout := kat_snds rfl har
  have hsz : (List.toArray ((runT ans (kas_sort vs.length)).toList.map fun i => vs.getD i Value.none)).size = vs.length := by rw [List.size_toArray, List.length_map, Array.length_toList, hp]
  rw [hout]
  have s2 := Heap.SameBut.update h1 a (Obj.mapSeq fun _ => List.toArray ((runT ans (kas_sort vs.length)).toList.map fun i => vs.getD i Value.none))
  obtain ⟨c2, hc2⟩ : ∃ c2, (h1.update a (Obj.mapSeq fun _ => List.toArray ((runT ans (kas_sort vs.length)).toList.map fun i => vs.getD i Value.none))).get? a = some (seqObj "list" (List.toArray ((runT ans (kas_sort vs.length)).toList.map fun i => vs.getD i Value.none)) c2) := ⟨_, get?_update_seq a1 fun _ => List.toArray ((runT ans (kas_sort vs.length)).toList.map fun i => vs.getD i Value.none)⟩
  refine wpAny_bind (seqEpoch_at a1 rfl ?_)
  refine wpAny_bind (listUpdate_at a1 rfl ?_ (Nat.zero_le _) (Nat.le_trans (Nat.le_of_eq hsz) (by rw [sizeLine_eq]; omega)))
  rw [hf]
  simp only [bne_self_eq_false, Bool.false_eq_true, if_false]
  exact wpAny_pure (hP _ c2 tk (fun b o nb e => (s2.2 b nb).trans (k1 b o nb e)) hc2)

theorem list_sort_short {a : Addr} {vs : List Value} {n : Nat} {P : PySem.Fin → Shared → Prop} (ho : s.heap.get? a = some (seqObj "list" vs.toArray n)) (h2 : vs.length < 2)
    (hP : ∀ h' c tk, (∀ b o, b ≠ a → s.heap.get? b = some o → h'.get? b = some o) → h'.get? a = some (seqObj "list" vs.toArray c) → P (.done (.ret .none)) { s with heap := h', toks := tk }) :
    wpAny (model prog w) A (Builtin.«list.sort» ⟨[.ref a], []⟩) P E s := by
  have s1 := Heap.SameBut.update s.heap a (Obj.mapSeq fun _ => (#[] : Array Value))
  obtain ⟨e1, ho1⟩ : ∃ e1, (s.heap.update a (Obj.mapSeq fun _ => (#[] : Array Value))).get? a = some (seqObj "list" #[] e1) := ⟨_, get?_update_seq ho fun _ => #[]⟩
  generalize hH : ((s.heap.update a (Obj.mapSeq fun _ => (#[] : Array Value))).push (seqObj "tuple" vs.toArray 0)).push (seqObj "list" #[] 0) = h1
  have k1 : ∀ b o, b ≠ a → s.heap.get? b = some o → h1.get? b = some o := fun b o nb e => by
    rw [← hH]; exact Heap.get?_push_of_some _ (Heap.get?_push_of_some _ (s1.extBut b o nb e))
  have a1 : h1.get? a = some (seqObj "list" #[] e1) := by rw [← hH]; exact Heap.get?_push_of_some _ (Heap.get?_push_of_some _ ho1)
  rw [list_sort_plain]
  refine wpAny_bind (listItems_at ho rfl ?_)
  refine wpAny_bind (listUpdate_at ho rfl ?_ (by rw [List.size_toArray, sizeLine_eq]; omega) (Nat.zero_le _))
  refine wpAny_bind (seqEpoch_at ho1 rfl ?_)
  refine wpAny_bind (wpAny_newTuple ?_ (by show vs.length ≤ _; rw [sizeLine_eq]; omega))
  refine wpAny_bind (wpAny_newList ?_ (Nat.zero_le _))
  refine wpAny_holding ?_
  show wpAny (model prog w) A _ P E { s with heap := ((s.heap.update a (Obj.mapSeq fun _ => (#[] : Array Value))).push (seqObj "tuple" vs.toArray 0)).push (seqObj "list" #[] 0) }
  rw [hH]
  dsimp only
  have hn2 : vs.toArray.size < 2 := by rw [List.size_toArray]; omega
  rw [if_pos hn2, if_pos hn2]
  refine wpAny_bind (wpAny_pure (wpAny_bind (wpAny_pure ?_)))
  have hout : ((arrOf (SortSt.mk' general' (vs.toArray.zip vs.toArray) #[] 7 none)).map (·.2)) = vs.toArray := by
    show (vs.toArray.zip vs.toArray).map (·.2) = vs.toArray
    apply Array.toList_inj.mp
    rw [Array.toList_map, Array.toList_zip]
    exact List.map_snd_zip (Nat.le_refl _)
  dsimp only
  rw [hout]
  have s2 := Heap.SameBut.update h1 a (Obj.mapSeq fun _ => vs.toArray)
  obtain ⟨c2, hc2⟩ : ∃ c2, (h1.update a (Obj.mapSeq fun _ => vs.toArray)).get? a = some (seqObj "list" vs.toArray c2) := ⟨_, get?_update_seq a1 fun _ => vs.toArray⟩
  refine wpAny_bind (seqEpoch_at a1 rfl ?_)
  refine wpAny_bind (listUpdate_at a1 rfl ?_ (Nat.zero_le _) (by rw [List.size_toArray, sizeLine_eq]; omega))
  have hf : failedOf (SortSt.mk' general' (vs.toArray.zip vs.toArray) #[] 7 none) = none := rfl
  (try rw [hf])
  simp only [bne_self_eq_false, Bool.false_eq_true, if_false]
  exact wpAny_pure (hP _ c2 s.toks (fun b o nb e => (s2.2 b nb).trans (k1 b o nb e)) hc2)

/-- sorted(list), by the list.sort inside -/
theorem sorted_shell {l : Addr} {vs : List Value} {Q : Value → Shared → Prop} (hl : s.heap.IsList l vs.toArray) (h64 : vs.length < 64)
    (h : ∀ (h₁ : Heap) (P : PySem.Fin → Shared → Prop), h₁.get? (s.heap.objs.size + 1) = some (seqObj "list" vs.toArray 0) → (∀ b o, s.heap.get? b = some o → h₁.get? b = some o) →
      (∀ h' tk c out, (∀ b o, s.heap.get? b = some o → h'.get? b = some o) → h'.get? (s.heap.objs.size + 1) = some (seqObj "list" out c) → Q (.ref (s.heap.objs.size + 1)) { s with heap := h', toks := tk } → P (.done (.ret .none)) { s with heap := h', toks := tk }) →
      wpAny (model prog w) A.in1.in1 (Builtin.«list.sort» ⟨[.ref (s.heap.objs.size + 1)], []⟩) P E { s with heap := h₁ }) :
    wpAny (model prog w) A (call (.builtin "sorted") [.ref l]) Q E s := by
  refine Calls.call_function_entry kind_sorted plain_sorted entry_sorted (args_sorted1 _) ?_
  unfold Builtin.«sorted»
  refine wpAny_bind (m := checkCount "sorted" 1 1 _) (wpAny_pure ?_)
  refine wpAny_bind (collect_list hl ?_ (by rw [sizeLine_eq]; omega))
  refine wpAny_bind (wpAny_newList ?_ (by rw [sizeLine_eq]; omega))
  have hsz : ((s.heap.push (seqObj "list" #[] 0)).update s.heap.objs.size (Obj.mapSeq (· ++ vs.toArray))).objs.size = s.heap.objs.size + 1 := by
    rw [Heap.size_update, size_push']
  have hoL : (((s.heap.push (seqObj "list" #[] 0)).update s.heap.objs.size (Obj.mapSeq (· ++ vs.toArray))).push (seqObj "list" vs.toArray 0)).get? (s.heap.objs.size + 1) = some (seqObj "list" vs.toArray 0) := by
    rw [← hsz]; exact Heap.get?_push_size _ rfl
  have keep : ∀ b o, s.heap.get? b = some o → (((s.heap.push (seqObj "list" #[] 0)).update s.heap.objs.size (Obj.mapSeq (· ++ vs.toArray))).push (seqObj "list" vs.toArray 0)).get? b = some o := fun b o q => by
    have hlt : b < s.heap.objs.size := Heap.lt_size q
    rw [Heap.get?_push_ne _ _ _ (by rw [hsz]; exact Nat.ne_of_lt (Nat.lt_succ_of_lt hlt)), Heap.get?_update_ne _ _ _ _ (Nat.ne_of_lt hlt), Heap.get?_push_ne _ _ _ (Nat.ne_of_lt hlt)]
    exact q
  show wpAny _ _ _ _ _ { s with heap := ((s.heap.push (seqObj "list" #[] 0)).update s.heap.objs.size (Obj.mapSeq (· ++ vs.toArray))).push (seqObj "list" vs.toArray 0) }
  rw [hsz]
  refine wpAny_bind (wpAny_holding (wpAny_call_entry slot_list_sort ⟨_, hoL, rfl⟩ entry_list_sort ?body (args_list_sort _)))
  case body =>
    refine h _ _ hoL keep fun h' tk c out hk hc hq => ?_
    exact ⟨_, rfl, wpAny_pure ⟨_, rfl, hq⟩⟩
end
end Mine
end

section
set_option autoImplicit false
namespace Mine
open PySem PySem.W PyProof.Rows

section
variable {X : Cx} {G : Glob} {c : Ctx} {k : Nat} {ns : List Str} {sc : Scope} {W W' : Wd} {s s' : Shared} {H H' : Hp} {ρ : Loc} {v : V} {w : Value} {A : Around} {env : Env}

theorem all_strs : ∀ {xs : List V} {us : List Value}, xs.all isStrV = true → RVs W xs us → ∃ ss, StrsAre us ss
  | [], [], _, _ => ⟨_, .nil⟩
  | x :: xs, u :: us, h, r => by
    simp only [List.all_cons, Bool.and_eq_true] at h
    simp only [RVs] at r
    obtain ⟨ss, hs⟩ := all_strs h.2 r.2
    cases x <;> simp only [isStrV, Bool.false_eq_true, false_and] at h
    have r1 := r.1
    simp only [RV] at r1
    obtain ⟨t, rfl⟩ := r1
    exact ⟨_, .cons _ _ hs⟩
  | [], _ :: _, _, r => by simp only [RVs] at r
  | _ :: _, [], _, r => by simp only [RVs] at r

theorem RVs.getD {xs : List V} {us : List Value} (r : RVs W xs us) (i : Nat) : RV W (xs.getD i .none) (us.getD i .none) := by
  rw [List.getD_eq_getElem?_getD, List.getD_eq_getElem?_getD]
  cases q : xs[i]? with
  | none =>
    have : us[i]? = none := by rw [List.getElem?_eq_none_iff] at q ⊢; rw [← r.length]; exact q
    rw [this]; exact RV.none
  | some x =>
    obtain ⟨u, e, ru⟩ := r.get q
    rw [e]; exact ru
theorem RVs.picked {xs : List V} {us : List Value} (r : RVs W xs us) : ∀ (ps : List Nat), RVs W (ps.map fun i => xs.getD i .none) (ps.map fun i => us.getD i .none)
  | [] => by simp only [List.map_nil, RVs]
  | p :: ps => by simp only [List.map_cons, RVs]; exact ⟨r.getD p, RVs.picked r ps⟩

theorem pairOf_inv {x : V} (h : isPairV x = true) : ∃ a i, x = .tup [.str a, .int i] := by
  cases x with
  | tup xs =>
    match xs, h with
    | [a, b], h =>
      cases a with
      | str a =>
        cases b with
        | int i => exact ⟨a, i, rfl⟩
        | _ => cases h
      | _ => cases h
  | _ => cases h
theorem slt_pair (a b : Str) (i j : Int) : sltV (.tup [.str a, .int i]) (.tup [.str b, .int j]) = if a = b then decide (i < j) else strLt a b := rfl
theorem pair_shape {x : V} {u : Value} (h : isPairV x = true) (r : RV W x u) : ∃ a i ad n t t', x = .tup [.str a, .int i] ∧ u = .ref ad ∧ W.σ ad = some (sObj "tuple" #[.str a t, .int i t'] n) := by
  obtain ⟨a, i, rfl⟩ := pairOf_inv h
  simp only [RV] at r
  obtain ⟨ad, vs, n, rfl, g, q⟩ := r
  obtain ⟨vs⟩ := vs
  obtain ⟨u1, u2, e, q1, q2⟩ := RVs.two q
  simp only [RV] at q1 q2
  obtain ⟨t, rfl⟩ := q1
  obtain ⟨t', rfl⟩ := q2
  have e' : vs = _ := e
  subst e'
  exact ⟨a, i, ad, n, t, t', rfl, rfl, g⟩

theorem all_tups {h : Heap} (hz : ∀ b o, W.σ b = some o → h.get? b = some o) : ∀ {xs : List V} {us : List Value}, xs.all isPairV = true → RVs W xs us → ∃ fs, KatTups h us fs ∧ fs.length = us.length ∧ ∀ f ∈ fs, ∃ x t, f = .str x t
  | [], [], _, _ => ⟨[], trivial, rfl, by simp⟩
  | x :: xs, u :: us, ha, r => by
    simp only [List.all_cons, Bool.and_eq_true] at ha
    simp only [RVs] at r
    obtain ⟨fs, h1, h2, h3⟩ := all_tups hz ha.2 r.2
    obtain ⟨a, i, ad, n, t, t', rfl, rfl, g⟩ := pair_shape ha.1 r.1
    refine ⟨.str a t :: fs, KatTups.cons (hz _ _ g) rfl rfl rfl h1, by simp [h2], ?_⟩
    intro f hf
    rcases List.mem_cons.mp hf with e | e
    · exact ⟨a, t, e⟩
    · exact h3 f e
  | [], _ :: _, _, r => by simp only [RVs] at r
  | _ :: _, [], _, r => by simp only [RVs] at r

theorem pair_lt {x y : V} {u v : Value} {s : Shared} {A : Around} (hx : isPairV x = true) (hy : isPairV y = true) (rx : RV W x u) (ry : RV W y v) (hz : ∀ b o, W.σ b = some o → s.heap.get? b = some o) {C : Bool → Shared → Prop} (hC : ∀ tk, C (sltV x y) { s with toks := tk }) :
    wpAny X.M A (keyLt' (tuples' true) u v) C (fun _ _ => False) s := by
  obtain ⟨a, i, ad, n, t, t', rfl, rfl, g⟩ := pair_shape hx rx
  obtain ⟨b, j, bd, m, u, u', rfl, rfl, g'⟩ := pair_shape hy ry
  refine kat_lt (hz _ _ g) rfl (hz _ _ g') rfl ?_
  show KatLex X.prog X.w A true _ C [(.str a t, .str b u), (.int i t', .int j u')] 0 s
  refine kat_cons (wpAny_eqBool_str (kat_go (fun e => kat_yes (kat_cons ?_)) fun e => kat_no ?_))
  · have e : a = b := of_decide_eq_true e
    subst e
    refine wpAny_eqBool_int (kat_go (fun e => kat_yes (kat_nil ?_)) fun e => kat_no (kat_one _ _ ?_))
    · have e : i = j := of_decide_eq_true e
      subst e
      have := hC s.toks
      simp only [slt_pair, if_true, Int.lt_irrefl, decide_false] at this
      exact this
    · have := hC s.toks
      simp only [slt_pair, if_true] at this
      exact PyProof.Rows.lt_int this
  · have e : a ≠ b := of_decide_eq_false e
    have := hC s.toks
    simp only [slt_pair, if_neg e] at this
    exact oneLt_str this

theorem sort_call (hA : AOk k A) (S : SR X.B W H s.heap) {x : V} {u : Value} {xs ys : List V} (r : RV W x u) (hx : x.items H = some xs) (nt : ¬ ∃ ts, x = .tup ts) (e : sortV xs = some ys) :
    wpAny X.M A (call (.builtin "sorted") [u]) (PL X W s H (.list ys)) NoE s := by
  obtain ⟨a, us, n, cc, rfl, g, q, hc⟩ := V.items_obj S hx r
  rcases hc with ⟨h, _⟩ | ⟨_, rfl⟩
  · exact (nt h).elim
  unfold sortV at e
  split at e
  case isFalse => cases e
  rename_i h64
  have hlen : xs.length = us.toList.length := q.length
  have hl : s.heap.IsList a us.toList.toArray := by rw [Array.toArray_toList]; exact ⟨_, g, rfl, n, rfl⟩
  have hn1 : s.heap.get? (s.heap.objs.size + 1) = none := by
    cases qq : s.heap.get? (s.heap.objs.size + 1) with
    | none => rfl
    | some o => exact absurd (Heap.lt_size qq) (Nat.not_lt.mpr (Nat.le_succ _))
  have fD := Free.of_none S hn1
  split at e
  · rename_i ss hss
    cases e
    have hS := strs_are hss q
    refine sorted_strs hl hS (by omega) fun out ss' h1 h2 h3 => ?_
    obtain ⟨ep, he⟩ := sortedAll_at s.heap us.toList out
    have hkk : ∀ b o, s.heap.get? b = some o → (sortedAll s.heap us.toList out).get? b = some o := fun b o e => sortedAll_old e
    have hu : ss' = ssort ss := by
      refine ssort_unique h2 ?_
      have rise : ∀ (l : List Str) (p : Str), risingS p l = true → (p :: l).Pairwise sle := by
        intro l
        induction l with
        | nil => intro p _; simp
        | cons x r ih =>
          intro p hr
          simp only [risingS, Bool.and_eq_true, Bool.not_eq_true'] at hr
          have hpx : sle p x := by
            have := hr.1
            rw [ltCps_eq] at this
            exact strLt_sle.mp this
          have ht := ih x hr.2
          rw [List.pairwise_cons]
          refine ⟨fun z hz => ?_, ht⟩
          rcases List.mem_cons.mp hz with rfl | hz'
          · exact hpx
          · exact sle_trans hpx ((List.pairwise_cons.mp ht).1 z hz')
      cases ss' with
      | nil => exact .nil
      | cons x r => exact rise r x h3
    refine ⟨W, s.heap.objs.size + 1, rfl, Tr.grow hkk, S.grow hkk, ⟨out, ep, he, ?_⟩, fD.2.1, fD.2.2, hn1, ⟨rfl, rfl, rfl⟩⟩
    rw [← hu]
    have : ∀ (vs : List Value) (ts : List Str), StrsAre vs ts → RVs W (ts.map V.str) vs := by
      intro vs ts h
      induction h with
      | nil => simp only [List.map_nil, RVs]
      | cons x t _ ih => simp only [List.map_cons, RVs]; exact ⟨RV.str, ih⟩
    exact this _ _ h1
  · split at e
    case isFalse => cases e
    rename_i hp
    refine sorted_shell hl (by omega) fun h₁ P hD hk hP => ?_
    have fin : ∀ h' tk c (out : List Value), (∀ b o, b ≠ s.heap.objs.size + 1 → h₁.get? b = some o → h'.get? b = some o) → h'.get? (s.heap.objs.size + 1) = some (seqObj "list" out.toArray c) → RVs W ys out → P (.done (.ret .none)) { s with heap := h', toks := tk } := by
      intro h' tk c out hk' hc' ry
      have hkk : ∀ b o, s.heap.get? b = some o → h'.get? b = some o := fun b o e => hk' b o (fun q => by rw [q, hn1] at e; cases e) (hk b o e)
      refine hP h' tk c _ hkk hc' ⟨W, s.heap.objs.size + 1, rfl, Tr.grow hkk, S.grow hkk, ⟨out.toArray, c, hc', ?_⟩, fD.2.1, fD.2.2, hn1, ⟨rfl, rfl, rfl⟩⟩
      exact ry
    split at e
    · rename_i h2
      cases e
      exact list_sort_short (s := { s with heap := h₁ }) hD (by omega) fun h' c tk hk' hc' => fin h' tk c _ hk' hc' q
    · rename_i h2
      cases e
      have hz : ∀ h' : Heap, (∀ b o, b ≠ s.heap.objs.size + 1 → h₁.get? b = some o → h'.get? b = some o) → ∀ b o, W.σ b = some o → h'.get? b = some o := fun h' hk' b o eb => hk' b o (fun q => by rw [q, fD.2.1] at eb; cases eb) (hk b o (S.froz b o eb))
      refine list_sort_own (s := { s with heap := h₁ }) (κ := tuples' true) (ans := fun i j => sltV (xs.getD i .none) (xs.getD j .none)) hD (by omega) (by omega) (fun h' Q hk' hQ => ?_) (fun h' i j tk C hi hj hk' hC => ?_) fun h' c tk hk' hc' => fin h' tk c _ hk' hc' ?_
      · obtain ⟨fs, t1, t2, t3⟩ := all_tups (hz h' hk') hp q
        refine kat_kind (T := .type "str") t1 (by omega) (fun f hf => ?_) rfl hQ
        obtain ⟨x, t, rfl⟩ := t3 f hf
        exact .now
      · unfold kas_ask
        have hs' : ∀ i, i < us.toList.length → isPairV (xs.getD i .none) = true := by
          intro i hi
          have hi' : i < xs.length := by omega
          rw [List.getD_eq_getElem?_getD, List.getElem?_eq_getElem hi', Option.getD_some]
          exact List.all_eq_true.mp hp xs[i] (List.getElem_mem hi')
        exact pair_lt (s := { s with heap := h', toks := tk }) (hs' i hi) (hs' j hj) (q.getD i) (q.getD j) (hz h' hk') hC
      · unfold permV
        rw [hlen]
        exact q.picked _

theorem simL_sorted (hB : BaseOk X) {f : Str} (hv : X.gv f = some (.builtin "sorted")) (hg : isGlob sc f = true) {e : Expr} {ce : E} (h : SimE X c k ns sc e ce) {p pos : Pos} : SimL X c k ns sc (.Call (.Name f p) [e] [] pos) (.sorted ce) := by
  intro env ρ H o H' A s W ev hE fr hA S
  simp only [evalL] at ev
  split at ev
  · rename_i x H1 e1
    split at ev
    · cases ev
    · rename_i nt
      rw [Option.map_eq_some_iff] at ev
      obtain ⟨ys, ev, e3⟩ := ev
      cases e3
      rw [Option.bind_eq_some_iff] at ev
      obtain ⟨xs, e4, e5⟩ := ev
      refine bi_call hB hv hg (.cons h .nil) (vs := [x]) (H' := H') (by simp only [evalEs, e1]) hE fr hA S fun ws s₁ W1 t1 S1 r1 q1 => ?_
      obtain ⟨u, rfl, r⟩ := r1.one
      exact wpAny_mono (sort_call hA S1 r e4 (fun ⟨ts, h⟩ => nt ts h) e5) (fun _ _ p => p.trans t1 q1) fun _ _ x => x
  · cases ev

theorem foldl_range (ss : List Str) : firstMetS (fun i => ss.getD i Str.empty) ss.length = ss.foldl sdd [] := by
  unfold firstMetS
  congr 1
  apply List.ext_getElem (by simp)
  intro i h1 h2
  simp [List.getD_eq_getElem?_getD, List.getElem?_eq_getElem h2]

theorem sim_setlen (hB : BaseOk X) {f g : Str} (hv : X.gv f = some (.builtin "len")) (hv' : X.gv g = some (.type "set")) (hg : isGlob sc f = true) (hg' : isGlob sc g = true) {e : Expr} {ce : E} (h : SimE X c k ns sc e ce) {p pos p2 pos2 : Pos} :
    SimV X c k ns sc (.Call (.Name f p) [.Call (.Name g p2) [e] [] pos2] [] pos) (.prim .setlen [ce]) := by
  intro env ρ H v H' A s W ev hE fr hA S
  simp only [evalE, evalEs] at ev
  split at ev
  · rename_i vs H1 e0
    split at e0
    · rename_i x H2 e1
      cases e0
      rw [Option.map_eq_some_iff] at ev
      obtain ⟨v', ev, e3⟩ := ev
      cases e3
      simp only [primV] at ev
      unfold setlenV at ev
      split at ev
      · cases ev
      · rename_i z nt heq
        cases heq
        split at ev
        · rename_i xs hx
          split at ev
          · rename_i ss hss
            split at ev
            · rename_i h6
              cases ev
              have hst : backTo pos (starEach [.Call (.Name g p2) [e] [] pos2] env) = [(false, eval (.Call (.Name g p2) [e] [] pos2) env)] := rfl
              refine wpAny_Call_Name_kw (glob_name hB hE S hg hv ?_)
              show wpAny X.M A (callWith pos (.builtin "len") [] (backTo pos (starEach [.Call (.Name g p2) [e] [] pos2] env)) []) _ _ s
              refine Calls.callWith_builtin (by rw [hst]; rfl) ?_
              rw [hst]
              refine Calls.evalArgs_plain (Calls.spliced_cons ?_)
              refine ty_call hB hv' hg' (.cons h .nil) (vs := [x]) (H' := H') (by simp only [evalEs, e1]) hE fr hA S fun ws s₁ W1 t1 S1 r1 q1 => ?_
              obtain ⟨u, rfl, r⟩ := r1.one
              obtain ⟨a, us, n, cc, rfl, ga, q, hc⟩ := V.items_obj S1 hx r
              rcases hc with ⟨hh, _⟩ | ⟨_, rfl⟩
              · exact (notTup nt hh).elim
              have hS := strs_are hss q
              have hsz : us.size = ss.length := by have := hS.length; rw [Array.length_toList] at this; exact this
              refine call_set_strs hA.handled ⟨_, ga, rfl, n, rfl⟩ hS (by unfold scanBound; omega) fun h' tk hSet hk => ?_
              obtain ⟨o, es, ep, t, ho, hex, hd, _, _, hbd, hfit, hsize⟩ := hSet
              refine Calls.spliced_nil ?_
              have hkk : ∀ b o, s₁.heap.get? b = some o → h'.get? b = some o := fun b o e => hk b o (Heap.lt_size e) e
              refine call_len_set ho hex hd hfit (by unfold scanBound at hbd; omega) ?_
              rw [hsize, hsz, foldl_range]
              exact ⟨W1, t1.trans (Tr.grow hkk), S1.grow hkk, RV.int, ⟨q1.gens, q1.drawn, q1.os⟩⟩
            · cases ev
          · cases ev
        · cases ev
      · cases ev
    · cases e0
  · cases ev
end
end Mine
end

section
set_option autoImplicit false
namespace Mine
open PySem

section
variable {X : Cx} {G : Glob} {c : Ctx} {k : Nat} {ns : List Str} {sc : Scope}

theorem sim_bin {l r : Expr} {cl cr : E} (hl : SimV X c k ns sc l cl) (hr : SimV X c k ns sc r cr) {op : Operator} {pos : Pos} : SimV X c k ns sc (.BinOp l op r pos) (.bin op cl cr) := by
  intro env ρ H v H' A s W ev hE f hA S
  simp only [evalE] at ev
  split at ev
  · rename_i x H1 e1
    split at ev
    · rename_i y H2 e2
      rw [Option.map_eq_some_iff] at ev
      obtain ⟨v', ev, e3⟩ := ev
      cases e3
      unfold binV at ev
      split at ev
      · rename_i i j
        rw [Option.map_eq_some_iff] at ev
        obtain ⟨z, ev, rfl⟩ := ev
        refine wpAny_BinOp (sim_two hl hr hE hA f S e1 e2 fun u u' s' W' t q r1 r2 rr => ?_)
        simp only [RV] at r1 r2
        obtain ⟨t1, rfl⟩ := r1
        obtain ⟨t2, rfl⟩ := r2
        exact wpAny_mono (sim_ibin q ev) (fun _ _ p => PV.trans t rr p) fun _ _ x => x
      · cases ev
    · cases ev
  · cases ev

theorem sim_prim_bi (hB : BaseOk X) {f : Str} {id : String} {pr : Prim} (hv : X.gv f = some (.builtin id)) (hg : isGlob sc f = true) {es : List Expr} {ces : List E} (h : SimEs X c k ns sc es ces) {p pos : Pos}
    (hp : ∀ (A : Around) (s : Shared) (W : Wd) (H : Hp) (vs : List V) (ws : List Value) (v : V), AOk k A → SR X.B W H s.heap → RVs W vs ws → primV H pr vs = some v → wpAny X.M A (call (.builtin id) ws) (PV X W s H v) NoE s) :
    SimV X c k ns sc (.Call (.Name f p) es [] pos) (.prim pr ces) := by
  intro env ρ H v H' A s W ev hE fr hA S
  simp only [evalE] at ev
  split at ev
  · rename_i vs H1 e1
    rw [Option.map_eq_some_iff] at ev
    obtain ⟨v', ev, e3⟩ := ev
    cases e3
    refine bi_call hB hv hg h e1 hE fr hA S fun ws s₁ W1 t1 S1 r1 q1 => ?_
    exact wpAny_mono (hp A s₁ W1 _ vs ws v hA S1 r1 ev) (fun _ _ p => PV.trans t1 q1 p) fun _ _ x => x
  · cases ev
theorem sim_prim_ty (hB : BaseOk X) {f : Str} {id : String} {pr : Prim} (hv : X.gv f = some (.type id)) (hg : isGlob sc f = true) {es : List Expr} {ces : List E} (h : SimEs X c k ns sc es ces) {p pos : Pos}
    (hp : ∀ (A : Around) (s : Shared) (W : Wd) (H : Hp) (vs : List V) (ws : List Value) (v : V), AOk k A → SR X.B W H s.heap → RVs W vs ws → primV H pr vs = some v → wpAny X.M A (call (.type id) ws) (PV X W s H v) NoE s) :
    SimV X c k ns sc (.Call (.Name f p) es [] pos) (.prim pr ces) := by
  intro env ρ H v H' A s W ev hE fr hA S
  simp only [evalE] at ev
  split at ev
  · rename_i vs H1 e1
    rw [Option.map_eq_some_iff] at ev
    obtain ⟨v', ev, e3⟩ := ev
    cases e3
    refine ty_call hB hv hg h e1 hE fr hA S fun ws s₁ W1 t1 S1 r1 q1 => ?_
    exact wpAny_mono (hp A s₁ W1 _ vs ws v hA S1 r1 ev) (fun _ _ p => PV.trans t1 q1 p) fun _ _ x => x
  · cases ev
theorem simL_listOf (hB : BaseOk X) {f : Str} (hv : X.gv f = some (.type "list")) (hg : isGlob sc f = true) {e : Expr} {ce : E} (h : SimE X c k ns sc e ce) {p pos : Pos} : SimL X c k ns sc (.Call (.Name f p) [e] [] pos) (.listOf ce) := by
  intro env ρ H o H' A s W ev hE fr hA S
  simp only [evalL] at ev
  split at ev
  · rename_i x H1 e1
    rw [Option.bind_eq_some_iff] at ev
    obtain ⟨xs, hx, ev⟩ := ev
    split at ev
    · rename_i hl
      cases ev
      refine ty_call hB hv hg (.cons h .nil) (vs := [x]) (H' := H') (by simp only [evalEs, e1]) hE fr hA S fun ws s₁ W1 t1 S1 r1 q1 => ?_
      obtain ⟨u, rfl, r⟩ := r1.one
      exact wpAny_mono (list_of_items S1 r hx hl) (fun _ _ p => p.trans t1 q1) fun _ _ x => x
    · cases ev
  · cases ev

theorem simV_global (hB : BaseOk X) (hK : Glk X G) {x : Str} {p : Pos} {v : V} (hg : isGlob sc x = true) (hv : G.gc.lookup x = some v) : SimV X c k ns sc (.Name x p) (.const v) := by
  intro env ρ H v' H' A s W ev hE fr hA S
  simp only [evalE, Option.some.injEq, Prod.mk.injEq] at ev
  obtain ⟨rfl, rfl⟩ := ev
  obtain ⟨w, h1, h2⟩ := hK.gc x v hv
  exact glob_name hB hE S hg h1 (PV.here' S (h2.mono ⟨fun _ _ e => (by cases e), List.nil_prefix⟩))

theorem simV_local {x : Str} {p : Pos} {i : Nat} (hl : isLoc sc x = true) (hi : slotOf ns x = some i) : SimV X c k ns sc (.Name x p) (.var i) := by
  intro env ρ H v H' A s W ev hE f hA S
  simp only [evalE] at ev
  split at ev
  · rename_i u hu
    cases ev
    exact sim_var hE f S hl hi hu
  · cases ev
theorem simV_const {cc : Const} {kk : Nat} {p : Pos} {v : V} (h : constV cc = some v) : SimV X c k ns sc (.Constant cc kk p) (.const v) := by
  intro env ρ H v' H' A s W ev hE f hA S
  simp only [evalE, Option.some.injEq, Prod.mk.injEq] at ev
  obtain ⟨rfl, rfl⟩ := ev
  exact sim_const S h

theorem tg_of {ci : It} {t : Expr} (h : (!isZipIt ci || isTupE t) = true) : itTg ci t := by
  cases ci <;> simp only [itTg] <;> (cases t <;> first | trivial | (exact absurd h (by simp [isZipIt, isTupE])))


/-- a translator whose every answer is sound -/
def Snd (X : Cx) (c : Ctx) (k : Nat) (ns : List Str) (r : Expr → Scope → Option E) : Prop := ∀ e sc ce, r e sc = some ce → SimE X c k ns sc e ce

theorem mapO_inv {α β : Type} {f : α → Option β} {x : α} {xs : List α} {zs : List β} (h : mapO f (x :: xs) = some zs) : ∃ y ys, f x = some y ∧ mapO f xs = some ys ∧ zs = y :: ys := by
  unfold mapO at h
  cases h1 : f x with
  | none => rw [h1] at h; cases h
  | some y =>
    rw [h1] at h
    cases h2 : mapO f xs with
    | none => rw [h2] at h; cases h
    | some ys => rw [h2] at h; cases h; exact ⟨y, ys, rfl, rfl, rfl⟩
theorem ite_inv {α : Type} {p : Prop} [Decidable p] {a : Option α} {b : α} (h : (if p then a else none) = some b) : p ∧ a = some b := by
  by_cases q : p
  · rw [if_pos q] at h; exact ⟨q, h⟩
  · rw [if_neg q] at h; cases h
theorem bind_inv {α β : Type} {a : Option α} {f : α → Option β} {b : β} (h : a.bind f = some b) : ∃ x, a = some x ∧ f x = some b := Option.bind_eq_some_iff.mp h
theorem map_inv {α β : Type} {a : Option α} {f : α → β} {b : β} (h : a.map f = some b) : ∃ x, a = some x ∧ f x = b := Option.map_eq_some_iff.mp h

theorem nameE_inv {e : Expr} {f : Str} (h : nameE e = some f) : ∃ p, e = .Name f p := by
  cases e <;> first | (cases h; exact ⟨_, rfl⟩) | cases h
theorem attrE_inv {e : Expr} {q : Expr × Str × Pos} (h : attrE e = some q) : e = .Attribute q.1 q.2.1 q.2.2 := by
  cases e <;> first | (cases h; rfl) | cases h
theorem tupOf_inv {e : Expr} {q : List Expr} (h : tupOf e = some q) : ∃ kk p, e = .Tuple q kk p := by
  cases e <;> first | (cases h; exact ⟨_, _, rfl⟩) | cases h
theorem sliceOf_inv {e : Expr} {q : Option Expr × Option Expr × Option Expr} (h : sliceOf e = some q) : ∃ p, e = .Slice q.1 q.2.1 q.2.2 p := by
  cases e <;> first | (cases h; exact ⟨_, rfl⟩) | cases h
theorem sub_plain {i : Expr} (h : sliceOf i = none) : ∀ x y, subscripted i false x y = operate [x, y] (getItem x y) := by
  cases i <;> first | exact fun _ _ => rfl | cases h
theorem subE_inv {e : Expr} {q : Expr × Expr} (h : subE e = some q) : ∃ p, e = .Subscript q.1 q.2 p := by
  cases e <;> first | (cases h; exact ⟨_, rfl⟩) | cases h
theorem emptyStr_inv {e : Expr} (h : emptyStr e = true) : ∃ s kk p, e = .Constant (.str s) kk p ∧ s.length = 0 := by
  cases e with
  | Constant cc kk p =>
    cases cc with
    | str s => exact ⟨s, kk, p, rfl, of_decide_eq_true h⟩
    | _ => cases h
  | _ => cases h
theorem callE_inv {e : Expr} {q : Str × List Expr} (h : callE e = some q) : ∃ fp p, e = .Call (.Name q.1 fp) q.2 [] p := by
  cases e with
  | Call f args kws p =>
    obtain ⟨g, h1, h2⟩ := bind_inv h
    obtain ⟨h3, h4⟩ := ite_inv h2
    obtain ⟨fp, rfl⟩ := nameE_inv h1
    cases h4
    cases kws with
    | nil => exact ⟨fp, p, rfl⟩
    | cons _ _ => cases h3
  | _ => cases h
theorem oneE_inv {es : List Expr} {e : Expr} (h : oneE es = some e) : es = [e] := by
  match es, h with
  | [_], h => cases h; rfl
theorem setArg_inv {G : Glob} {sc : Scope} {e e' : Expr} (h : setArg G sc e = some e') : ∃ g fp p, e = .Call (.Name g fp) [e'] [] p ∧ isGlob sc g = true ∧ G.fn.lookup g = none ∧ biOf g = some .set := by
  obtain ⟨q, h1, h2⟩ := bind_inv h
  obtain ⟨e2, h3, h4⟩ := bind_inv h2
  obtain ⟨h5, h6⟩ := ite_inv h4
  cases h6
  obtain ⟨fp, p, rfl⟩ := callE_inv h1
  rw [oneE_inv h3]
  simp only [Bool.and_eq_true, decide_eq_true_eq, Option.isNone_iff_eq_none] at h5
  exact ⟨q.1, fp, p, rfl, h5.1.1, h5.1.2, h5.2⟩
def isLC : Expr → Bool
  | .ListComp .. => true
  | .SetComp .. => true
  | .DictComp .. => true
  | _ => false
theorem swaps_plain {v : Expr} (h : isLC v = false) (t : Option Expr) (line : Nat) (env : Env) : swapsWith v t line env = pure false := by
  cases v <;> first | rfl | cases h
theorem swaps_sub {v : Expr} (a i : Expr) (p : Pos) (line : Nat) (env : Env) : swapsWith v (some (.Subscript a i p)) line env = pure false := by
  cases v <;> rfl

section
variable {r : Expr → Scope → Option E}
theorem snd_all (h : Snd X c k ns r) {sc : Scope} : ∀ {es : List Expr} {ces : List E}, mapO (fun e => r e sc) es = some ces → SimEs X c k ns sc es ces
  | [], _, e => by cases e; exact .nil
  | _ :: _, _, e => by
    obtain ⟨y, ys, h1, h2, rfl⟩ := mapO_inv e
    exact .cons (h _ _ _ h1) (snd_all h h2)
theorem snd_es (h : Snd X c k ns r) {sc : Scope} {es : List Expr} {ces : List E} (e : trEs r es sc = some ces) : SimEs X c k ns sc es ces ∧ es.length ≤ sizeLine := by
  obtain ⟨h1, h2⟩ := ite_inv e
  exact ⟨snd_all h h2, by rw [sizeLine_eq]; omega⟩
theorem snd_o (h : Snd X c k ns r) {sc : Scope} {o : Option Expr} {co : Option E} (e : trO r o sc = some co) : SimO X c k ns sc o co := by
  cases o with
  | none => cases e; trivial
  | some e' =>
    obtain ⟨a, ha, rfl⟩ := map_inv e
    exact (h _ _ _ ha).val
theorem fb_inv {G : Glob} {p : Pos} {l : Option L} {ce : E} (h : fb G p l = some ce) : ∃ l', l = some l' ∧ ce = (if G.bx p then .box l' else .frz l') := by
  obtain ⟨l', h1, h2⟩ := map_inv h
  exact ⟨l', h1, h2.symm⟩

theorem snd_sub (h : Snd X c k ns r) {sc : Scope} {a i : Expr} {p : Pos} {ce : E} (e : trSub G r a i p sc = some ce) : SimV X c k ns sc (.Subscript a i p) ce := by
  delta trSub at e
  cases hq : sliceOf i with
  | none =>
    rw [hq] at e
    obtain ⟨ca, h1, e⟩ := bind_inv e
    obtain ⟨ci, h2, rfl⟩ := map_inv e
    exact sim_sub (h _ _ _ h1).val (h _ _ _ h2).val (sub_plain hq)
  | some q =>
    rw [hq] at e
    obtain ⟨h0, e⟩ := ite_inv e
    obtain ⟨ca, h1, e⟩ := bind_inv e
    obtain ⟨lo, h2, e⟩ := bind_inv e
    obtain ⟨hi, h3, e⟩ := bind_inv e
    obtain ⟨l', h4, rfl⟩ := fb_inv e
    cases h4
    obtain ⟨sp, rfl⟩ := sliceOf_inv hq
    have h5 : q.2.2 = none := Option.isNone_iff_eq_none.mp h0
    rw [h5]
    exact sim_fb (sim_slice (h _ _ _ h1).val (snd_o h h2) (snd_o h h3))

theorem snd_b1 (hB : BaseOk X) (hK : Glk X G) (h : Snd X c k ns r) {sc : Scope} {f : Str} {b : BI} {e : Expr} {p q : Pos} {ce : E} (hf : G.fn.lookup f = none) (hg : isGlob sc f = true) (hbi : biOf f = some b) (ev : trB1 G r b e p sc = some ce) :
    SimV X c k ns sc (.Call (.Name f q) [e] [] p) ce := by
  have hb := hK.bi f hf b hbi
  delta trB1 at ev
  cases b <;> dsimp only at ev hb <;> try (cases ev; done)
  · cases hs : setArg G sc e with
    | some e' =>
      rw [hs] at ev
      obtain ⟨a, ha, rfl⟩ := map_inv ev
      obtain ⟨g, fp, p2, rfl, hg2, hl2, hb2⟩ := setArg_inv hs
      exact sim_setlen hB hb (hK.bi g hl2 _ hb2) hg hg2 (h _ _ _ ha)
    | none =>
      rw [hs] at ev
      obtain ⟨a, ha, rfl⟩ := map_inv ev
      exact sim_prim_bi hB hb hg (.cons (h _ _ _ ha) .nil) fun A s W H vs ws v hA S r e => prim_len S r e
  · obtain ⟨a, ha, rfl⟩ := map_inv ev
    exact sim_prim_bi hB hb hg (.cons (h _ _ _ ha) .nil) fun A s W H vs ws v hA S r e => prim_all hA S r e
  · obtain ⟨a, ha, rfl⟩ := map_inv ev
    exact sim_prim_ty hB hb hg (.cons (h _ _ _ ha) .nil) fun A s W H vs ws v hA S r e => prim_tuple S r e
  · obtain ⟨l, hl, rfl⟩ := fb_inv ev
    obtain ⟨a, ha, rfl⟩ := map_inv hl
    exact sim_fb (simL_listOf hB hb hg (h _ _ _ ha))
  · obtain ⟨l, hl, rfl⟩ := fb_inv ev
    obtain ⟨a, ha, rfl⟩ := map_inv hl
    exact sim_fb (simL_sorted hB hb hg (h _ _ _ ha))
  · obtain ⟨a, ha, rfl⟩ := map_inv ev
    exact sim_prim_ty hB hb hg (.cons (h _ _ _ ha) .nil) fun A s W H vs ws v hA S r e => prim_intOf S r e

theorem snd_b2 (hB : BaseOk X) (hK : Glk X G) (h : Snd X c k ns r) {sc : Scope} {f : Str} {b : BI} {e e2 : Expr} {p q : Pos} {ce : E} (hf : G.fn.lookup f = none) (hg : isGlob sc f = true) (hbi : biOf f = some b) (ev : trB2 r b e e2 sc = some ce) :
    SimV X c k ns sc (.Call (.Name f q) [e, e2] [] p) ce := by
  have hb := hK.bi f hf b hbi
  delta trB2 at ev
  cases b <;> dsimp only at ev hb <;> try (cases ev; done)
  · cases hs : tupOf e2 with
    | some es =>
      rw [hs] at ev
      obtain ⟨a, ha, ev⟩ := bind_inv ev
      obtain ⟨ts, ht, ev⟩ := bind_inv ev
      obtain ⟨h1, ev⟩ := ite_inv ev
      cases ev
      obtain ⟨kk, tp, rfl⟩ := tupOf_inv hs
      exact sim_isiT hB hK hb hg (h _ _ _ ha) ht h1.1 (by rw [sizeLine_eq]; omega)
    | none =>
      rw [hs] at ev
      obtain ⟨a, ha, ev⟩ := bind_inv ev
      obtain ⟨t, ht, rfl⟩ := map_inv ev
      exact sim_isi1 hB hK hb hg (h _ _ _ ha) ht
  · obtain ⟨a, ha, ev⟩ := bind_inv ev
    obtain ⟨b, hb2, rfl⟩ := map_inv ev
    exact sim_prim_bi hB hb hg (.cons (h _ _ _ ha) (.cons (h _ _ _ hb2) .nil)) fun A s W H vs ws v hA S r e => prim_min hA S r e

theorem snd_m (h : Snd X c k ns r) {sc : Scope} {o : Expr} {m : Str} {args : List Expr} {ap p : Pos} {ce : E} (hp : plainBase o = true) (hl : (ap.endLine == p.line) = true) (ev : trM r o m args sc = some ce) :
    SimV X c k ns sc (.Call (.Attribute o m ap) args [] p) ce := by
  match args, ev with
  | [], ev =>
    obtain ⟨hm, ev⟩ := ite_inv ev
    obtain ⟨o', ho, rfl⟩ := map_inv ev
    rw [eq_of_beq hm]
    exact sim_clear (h _ _ _ ho).val hp hl
  | [a], ev =>
    have ev : (if m == ("append" : Str) then (r o sc).bind fun o => (r a sc).map fun a => .eff .append [o, a]
      else if m == ("join" : Str) then (if emptyStr o then (r a sc).map fun a => .prim .join [a] else none) else none) = some ce := ev
    by_cases hm : (m == ("append" : Str)) = true
    · rw [if_pos hm] at ev
      obtain ⟨o', ho, ev⟩ := bind_inv ev
      obtain ⟨a', ha, rfl⟩ := map_inv ev
      rw [eq_of_beq hm]
      exact sim_append (h _ _ _ ho).val (h _ _ _ ha) hp hl
    · rw [if_neg hm] at ev
      obtain ⟨hm, ev⟩ := ite_inv ev
      obtain ⟨he, ev⟩ := ite_inv ev
      obtain ⟨a', ha, rfl⟩ := map_inv ev
      obtain ⟨st, kk, cp, rfl, hz⟩ := emptyStr_inv he
      rw [eq_of_beq hm]
      exact sim_join (h _ _ _ ha) hz hl

theorem snd_call (hB : BaseOk X) (hK : Glk X G) (hO : OS X G c k) (h : Snd X c k ns r) {sc : Scope} {f : Expr} {args : List Expr} {p : Pos} {ce : E} (ev : trCall G r f args p sc = some ce) : SimV X c k ns sc (.Call f args [] p) ce := by
  delta trCall at ev
  cases hn : nameE f with
  | some g =>
    rw [hn] at ev
    dsimp only at ev
    replace ev := ite_inv ev
    obtain ⟨hg, ev⟩ := ev
    obtain ⟨q, rfl⟩ := nameE_inv hn
    cases hf : G.fn.lookup g with
    | some m =>
      rw [hf] at ev
      obtain ⟨as, has, rfl⟩ := map_inv ev
      have hes := (snd_es h has).1
      by_cases hb : G.bx p = true
      · rw [if_pos hb]
        exact sim_fb (b := true) (simL_call hB hO hf hg hes)
      · rw [if_neg hb]
        exact sim_call hB hO hf hg hes
    | none =>
      rw [hf] at ev
      obtain ⟨b, hbi, ev⟩ := bind_inv ev
      match args, ev with
      | [e], ev => exact snd_b1 hB hK h hf hg hbi ev
      | [e, e2], ev => exact snd_b2 hB hK h hf hg hbi ev
  | none =>
    rw [hn] at ev
    cases ha : attrE f with
    | none => rw [ha] at ev; cases ev
    | some q =>
      rw [ha] at ev
      obtain ⟨hc, ev⟩ := ite_inv ev
      rw [Bool.and_eq_true] at hc
      rw [attrE_inv ha]
      exact snd_m h hc.2 hc.1 ev

theorem snd_it (hB : BaseOk X) (hK : Glk X G) (h : Snd X c k ns r) {sc : Scope} {e : Expr} {ci : It} (ev : trIt G r e sc = some ci) : SimIt X c k ns sc e ci := by
  have plain : ∀ {ci : It}, (r e sc).map It.of = some ci → SimIt X c k ns sc e ci := by
    intro ci ev
    obtain ⟨a, ha, rfl⟩ := map_inv ev
    exact simIt_of (h _ _ _ ha)
  delta trIt at ev
  cases hc : callE e with
  | none => rw [hc] at ev; exact plain ev
  | some q =>
    rw [hc] at ev
    dsimp only at ev
    by_cases hi : isIter G sc q.1 = true
    · rw [if_pos hi] at ev
      obtain ⟨b, hb, ev⟩ := bind_inv ev
      obtain ⟨fp, p, rfl⟩ := callE_inv hc
      unfold isIter at hi
      rw [Bool.and_eq_true, Bool.and_eq_true, Option.isNone_iff_eq_none] at hi
      match hq : q.2, ev with
      | [x], ev =>
        obtain ⟨rfl, ev⟩ := ite_inv ev
        obtain ⟨a, ha, rfl⟩ := map_inv ev
        exact simIt_range hB (hK.bi _ hi.1.2 _ hb) hi.1.1 (h _ _ _ ha)
      | [x, y], ev =>
        obtain ⟨rfl, ev⟩ := ite_inv ev
        obtain ⟨a, ha, ev⟩ := bind_inv ev
        obtain ⟨b, hb2, rfl⟩ := map_inv ev
        exact simIt_zip hB (hK.bi _ hi.1.2 _ hb) hi.1.1 (h _ _ _ ha) (h _ _ _ hb2)
    · rw [if_neg hi] at ev
      exact plain ev

theorem snd_comp (hB : BaseOk X) (hK : Glk X G) (h : Snd X c k ns r) {sc csc : Scope} {elt : Expr} {gens : List Comprehension} {p : Pos} {ce : E} (ev : trComp G ns r elt gens csc p sc = some ce) :
    ∃ t it ifs ct cit cifs celt, gens = [⟨t, it, ifs, 0⟩] ∧ CompOk ns sc csc t cit ∧ trT ns csc t = some ct ∧ SimIt X c k ns sc it cit ∧ SimEs X c k ns csc ifs cifs ∧ SimE X c k ns csc elt celt ∧ ce = (if G.bx p then .box (.comp ct cit cifs celt) else .frz (.comp ct cit cifs celt)) := by
  match gens, ev with
  | [g], ev =>
    obtain ⟨ha, ev⟩ := ite_inv ev
    obtain ⟨ct, h1, ev⟩ := bind_inv ev
    obtain ⟨cit, h2, ev⟩ := bind_inv ev
    obtain ⟨cifs, h3, ev⟩ := bind_inv ev
    obtain ⟨celt, h4, ev⟩ := bind_inv ev
    obtain ⟨hc, ev⟩ := ite_inv ev
    obtain ⟨l, hl, rfl⟩ := fb_inv ev
    cases hl
    obtain ⟨t, it, ifs, a⟩ := g
    dsimp only at ha h1 h2 h3 hc
    subst ha
    exact ⟨t, it, ifs, ct, cit, cifs, celt, rfl, compOk_of hc, h1, snd_it hB hK h h2, (snd_es h h3).1, h _ _ _ h4, rfl⟩

theorem snd_e1 (hB : BaseOk X) (hK : Glk X G) (hO : OS X G c k) (h : Snd X c k ns r) : Snd X c k ns (trE1 G ns r) := by
  intro e sc ce ev
  have pl : ∀ {e : Expr} {ce : E}, SimV X c k ns sc e ce → (∀ env whole, isTrue e env whole = (do let v ← whole; standAt e.pos; holding [v] (truthy v))) → plainE e = true → SimE X c k ns sc e ce :=
    fun hv ht hp => ⟨hv, test_plain hv ht, hp⟩
  delta trE1 at ev
  cases e <;> dsimp only at ev <;> try (cases ev; done)
  case Constant cc kk p =>
    obtain ⟨v, hv, rfl⟩ := map_inv ev
    exact pl (simV_const hv) (fun _ _ => rfl) rfl
  case Name x p =>
    refine pl ?_ (fun _ _ => rfl) rfl
    delta trName at ev
    by_cases hl : isLoc sc x = true
    · rw [if_pos hl] at ev
      obtain ⟨i, hi, rfl⟩ := map_inv ev
      exact simV_local hl hi
    · rw [if_neg hl] at ev
      obtain ⟨hg, ev⟩ := ite_inv ev
      obtain ⟨v, hv, rfl⟩ := map_inv ev
      exact simV_global hB hK hg hv
  case BinOp a op b p =>
    obtain ⟨ca, ha, ev⟩ := bind_inv ev
    obtain ⟨cb, hb, ev⟩ := bind_inv ev
    by_cases hx : G.bx p = true
    · rw [if_pos hx] at ev; cases ev
    · rw [if_neg hx] at ev
      cases ev
      exact pl (sim_bin (h _ _ _ ha).val (h _ _ _ hb).val) (fun _ _ => rfl) rfl
  case UnaryOp op a p =>
    obtain ⟨ca, ha, ev⟩ := bind_inv ev
    cases op <;> first | (cases ev; exact sim_not (h _ _ _ ha)) | cases ev
  case BoolOp op es p =>
    obtain ⟨ces, hes, ev⟩ := bind_inv ev
    cases op
    · cases ev; exact sim_And (snd_es h hes).1
    · cases ev; exact sim_Or (snd_es h hes).1
  case Compare a ops es p =>
    obtain ⟨ca, ha, ev⟩ := bind_inv ev
    obtain ⟨ces, hes, rfl⟩ := map_inv ev
    exact sim_Compare (h _ _ _ ha).val (snd_es h hes).1
  case Tuple es kk p =>
    obtain ⟨ces, hes, rfl⟩ := map_inv ev
    exact pl (sim_tuple (snd_es h hes).1 (snd_es h hes).2) (fun _ _ => rfl) rfl
  case List es p =>
    obtain ⟨l, hl, rfl⟩ := fb_inv ev
    obtain ⟨ces, hes, rfl⟩ := map_inv hl
    exact pl (sim_fb (sim_disp (snd_es h hes).1 (snd_es h hes).2)) (fun _ _ => rfl) rfl
  case Subscript a i p => exact pl (snd_sub h ev) (fun _ _ => rfl) rfl
  case ListComp elt gens csc p =>
    obtain ⟨t, it, ifs, ct, cit, cifs, celt, rfl, h1, h2, h3, h4, h5, rfl⟩ := snd_comp hB hK h ev
    exact pl (sim_fb (simL_comp h1 h2 h3 h4 h5)) (fun _ _ => rfl) rfl
  case Call f args kws p =>
    obtain ⟨hk, ev⟩ := ite_inv ev
    cases kws with
    | cons _ _ => cases hk
    | nil => exact pl (snd_call hB hK hO h ev) (fun _ _ => rfl) rfl
end

theorem snd_e (hB : BaseOk X) (hK : Glk X G) (hO : OS X G c k) (ns : List Str) : ∀ n, Snd X c k ns (trE G ns n)
  | 0 => fun _ _ _ h => by cases h
  | n + 1 => snd_e1 hB hK hO (snd_e hB hK hO ns n)

theorem snd_as (hB : BaseOk X) (hK : Glk X G) (hO : OS X G c k) {n : Nat} {t v : Expr} {pos : Pos} {cs : S} (ev : trAs ns sc (trE G ns n) t v = some cs) : SimS X c k ns sc (.Assign [t] v pos) cs := by
  have h := snd_e hB hK hO ns n
  delta trAs at ev
  cases hs : subE t with
  | some q =>
    rw [hs] at ev
    obtain ⟨cv, h1, ev⟩ := bind_inv ev
    obtain ⟨ca, h2, ev⟩ := bind_inv ev
    obtain ⟨ci, h3, rfl⟩ := map_inv ev
    obtain ⟨p, rfl⟩ := subE_inv hs
    exact simS_setItem (h _ _ _ h1).val (h _ _ _ h2).val (h _ _ _ h3).val fun env => swaps_sub _ _ _ _ env
  | none =>
    rw [hs] at ev
    cases hn : nameE t with
    | none => rw [hn] at ev; cases ev
    | some x =>
      rw [hn] at ev
      obtain ⟨i, hi, ev⟩ := bind_inv ev
      obtain ⟨cv, hv, rfl⟩ := map_inv ev
      obtain ⟨p, rfl⟩ := nameE_inv hn
      by_cases hl : isLC v = false
      · exact simS_assign (h _ _ _ hv).val hi fun env => swaps_plain hl _ _ env
      · cases n with
        | zero => cases hv
        | succ n =>
          have hv0 := hv
          cases v <;> first | exact absurd rfl hl | skip
          · obtain ⟨t, it, ifs, ct, cit, cifs, celt, rfl, h1, h2, h3, h4, h5, rfl⟩ := snd_comp hB hK (snd_e hB hK hO ns n) hv
            exact simS_assign_comp h1 h2 h3 h4 h5 (h _ _ _ hv0).val hi
          · cases hv
          · cases hv

theorem snd_ss {q : Stmt → Option S} (h : ∀ st cs, q st = some cs → SimS X c k ns sc st cs) : ∀ {ss : List Stmt} {css : List S}, mapO q ss = some css → SimSs X c k ns sc ss css
  | [], _, e => by cases e; exact simSs_nil
  | _ :: _, _, e => by
    obtain ⟨y, ys, h1, h2, rfl⟩ := mapO_inv e
    exact simSs_cons (h _ _ h1) (snd_ss h h2)

theorem expr_call {e : Expr} (h : isCallE e = true) (line : Nat) (env : Env) : swapsWith e none line env = pure false := by
  cases e <;> first | rfl | cases h

theorem snd_s (hB : BaseOk X) (hK : Glk X G) (hO : OS X G c k) : ∀ n, ∀ st cs, trS G ns sc n st = some cs → SimS X c k ns sc st cs
  | 0, _, _, h => by cases h
  | n + 1, st, cs, ev => by
    have h := snd_e hB hK hO ns n
    have hs : ∀ {ss : List Stmt} {css : List S}, mapO (trS G ns sc n) ss = some css → SimSs X c k ns sc ss css := snd_ss (snd_s hB hK hO n)
    change trS1 G ns sc (trE G ns n) (trS G ns sc n) st = some cs at ev
    delta trS1 at ev
    cases st <;> dsimp only at ev <;> try (cases ev; done)
    case Assign ts v pos =>
      match ts, ev with
      | [t], ev => exact snd_as hB hK hO ev
    case Expr e pos =>
      obtain ⟨h1, ev⟩ := ite_inv ev
      obtain ⟨a, ha, rfl⟩ := map_inv ev
      exact simS_expr (h _ _ _ ha).val fun env => expr_call h1 _ env
    case If b t e pos =>
      obtain ⟨cb, h1, ev⟩ := bind_inv ev
      obtain ⟨ct, h2, ev⟩ := bind_inv ev
      obtain ⟨ce, h3, rfl⟩ := map_inv ev
      exact simS_if (h _ _ _ h1).test (hs h2) (hs h3)
    case For t it body els pos =>
      obtain ⟨h0, ev⟩ := ite_inv ev
      obtain ⟨ct, h1, ev⟩ := bind_inv ev
      obtain ⟨cit, h2, ev⟩ := bind_inv ev
      obtain ⟨cb, h3, ev⟩ := bind_inv ev
      obtain ⟨h4, ev⟩ := ite_inv ev
      cases ev
      cases els with
      | cons _ _ => cases h0
      | nil => exact simS_for (tg_of h4) h1 (snd_it hB hK h h2) (hs h3)
    case Return o pos =>
      cases o with
      | some e =>
        obtain ⟨a, ha, rfl⟩ := map_inv ev
        exact simS_ret (h _ _ _ ha).val
      | none => cases ev; exact simS_ret_none
    case Raise => cases ev; exact simS_stuck

/-- every def that a call may reach stands on the base, and its clean form is what the translation gives -/
structure FnsOk (X : Cx) (G : Glob) (P : Nat → Option Fn) (fuel : Nat) : Prop where
  fn : ∀ f n, G.fn.lookup f = some n → ∃ ps ns sc body cb fa fo fd, FnAt X f ps sc body fa fo fd ∧ FnOk sc ps ns ∧ trSs G ns sc fuel body = some cb ∧ P n = some ⟨ps.length, ns.length - ps.length, cb⟩

theorem OS_all (hB : BaseOk X) (hK : Glk X G) {P : Nat → Option Fn} {tf fuel : Nat} (hP : FnsOk X G P tf) : ∀ k, OS X G ⟨F P fuel k, fuel⟩ k
  | 0 => fun n args H v fr H' e => by simp only [F, reduceCtorEq] at e
  | k + 1 => by
    have ih := OS_all hB hK hP (fuel := fuel) k
    intro n args H v fr H' e f hf
    obtain ⟨ps, ns, sc, body, cb, fa, fo, fd, h1, h2, h3, h4⟩ := hP.fn f n hf
    refine ⟨fa, fo, fd, h1.name, h1.at_, h1.data, fun A s W ws hA S r => ?_⟩
    simp only [F, h4] at e
    split at e
    · rename_i hlen
      have hb := snd_ss (snd_s hB hK ih tf) h3
      split at e
      · rename_i v' ρ' H1 he
        exact call_sound hB h1 h2 hb rfl hlen he e A ws hA S r
      · rename_i ρ' H1 he
        exact call_sound hB h1 h2 hb rfl hlen he e A ws hA S r
      · cases e
    · cases e
end
end Mine
end

section
set_option autoImplicit false
namespace Mine
open PySem

theorem zip_lookup : ∀ {ps : List Str} {vals : List Value}, ps.Nodup → vals.length = ps.length → ∀ i (h : i < ps.length) (h' : i < vals.length), (ps.zip vals).lookup ps[i] = some vals[i]
  | p :: ps, v :: vals, hn, hl, 0, _, _ => by simp
  | p :: ps, v :: vals, hn, hl, i + 1, h, h' => by
    simp only [List.nodup_cons] at hn
    have hne : (ps[i]'(by simpa using h) == p) = false := by
      rw [beq_eq_false_iff_ne]
      intro e
      exact hn.1 (e ▸ List.getElem_mem _)
    simp only [List.zip_cons_cons, List.getElem_cons_succ, List.lookup_cons, hne]
    exact zip_lookup hn.2 (by simpa using hl) i (by simpa using h) (by simpa using h')
  | [], _, _, _, _, h, _ => by simp at h
  | _ :: _, [], _, hl, _, _, _ => by simp at hl

theorem binds_plain {fd : FuncData} {vals : List Value} (h1 : fd.params.posonlyargs = []) (h2 : fd.params.kwonlyargs = []) (h3 : fd.params.vararg = none) (h4 : fd.params.kwarg = none) (h5 : fd.defaults = .none)
    (hn : (fd.params.args.map (·.arg)).Nodup) (hl : vals.length = (fd.params.args.map (·.arg)).length) : bindArgs fd ⟨vals, []⟩ = pure ((fd.params.args.map (·.arg)).zip vals) := by
  generalize hps : fd.params.args.map (·.arg) = ps at hn hl
  have hall : ∀ n ∈ ps, ∃ v, (ps.zip vals).lookup n = some v := by
    intro n hm
    obtain ⟨i, hi, e⟩ := List.getElem_of_mem hm
    exact ⟨vals[i]'(by omega), by rw [← e]; exact zip_lookup hn hl i hi _⟩
  have hmiss : (ps.take ps.length).filter (fun n => ((ps.zip vals).lookup n).isNone) = [] := by
    rw [List.take_length, List.filter_eq_nil_iff]
    intro n hm
    obtain ⟨v, e⟩ := hall n hm
    simp [e]
  have hbinds : ps.filterMap (fun n => ((ps.zip vals).lookup n).map (n, ·)) = ps.zip vals := by
    have : ∀ (qs : List Str) (us : List Value), us.length = qs.length → (∀ i (h : i < qs.length) (h' : i < us.length), (ps.zip vals).lookup qs[i] = some us[i]) → qs.filterMap (fun n => ((ps.zip vals).lookup n).map (n, ·)) = qs.zip us := by
      intro qs
      induction qs with
      | nil => intro us _ _; simp
      | cons q qs ih =>
        intro us hu hq
        cases us with
        | nil => simp at hu
        | cons u us =>
          have h0 := hq 0 (by simp) (by simp)
          simp only [List.getElem_cons_zero] at h0
          rw [List.filterMap_cons, h0]
          simp only [Option.map_some, List.zip_cons_cons]
          rw [ih us (by simpa using hu) fun i a b => by have := hq (i + 1) (by simpa using a) (by simpa using b); rwa [List.getElem_cons_succ, List.getElem_cons_succ] at this]
    exact this ps vals hl fun i h h' => zip_lookup hn hl i h h'
  unfold bindArgs
  simp only [h1, h2, h3, h4, h5, hps, List.map_nil, List.nil_append, List.append_nil, List.forIn_nil, pure_bind]
  have hsq : seqItems? Value.none = pure none := rfl
  rw [hsq]
  simp only [pure_bind, Option.getD_none, Array.toList_empty, List.length_nil, Nat.zero_sub, List.drop_nil, Nat.sub_zero, List.zip_nil_right, List.forIn_nil]
  rw [hmiss]
  have hng : ¬ (vals.length > ps.length) := by omega
  simp [hng, hbinds]
end Mine
end

section
set_option autoImplicit false
namespace Mine
open PySem PyProof.Rows

noncomputable def nameB : BI → Str
  | .len => "len" | .isinstance => "isinstance" | .all => "all" | .tuple => "tuple" | .list => "list" | .sorted => "sorted" | .set => "set" | .int => "int" | .abs => "abs" | .min => "min" | .max => "max" | .range => "range" | .zip => "zip" | .enumerate => "enumerate" | .dict => "dict"
noncomputable def valB : BI → Value
  | .len => .builtin "len" | .isinstance => .builtin "isinstance" | .all => .builtin "all" | .tuple => .type "tuple" | .list => .type "list" | .sorted => .builtin "sorted"
  | .set => .type "set" | .int => .type "int" | .abs => .builtin "abs" | .min => .builtin "min" | .max => .builtin "max" | .range => .type "range" | .zip => .type "zip" | .enumerate => .type "enumerate" | .dict => .type "dict"
theorem ite_some {c : Prop} [Decidable c] {α : Type} {a b : α} {o : Option α} (h : (if c then some a else o) = some b) : (c ∧ a = b) ∨ o = some b := by
  split at h
  · cases h; exact .inl ⟨by assumption, rfl⟩
  · exact .inr h
theorem biOf_name {x : Str} {b : BI} (h : biOf x = some b) : x = nameB b := by
  unfold biOf at h
  repeat (rcases ite_some h with ⟨e, rfl⟩ | h'; (exact eq_of_beq e); (replace h := h'; clear h'))
  cases h
theorem tyNm_name {x : Str} {t : Ty} (h : tyNm x = some t) : x = Str.ofString (tyName t) := by
  unfold tyNm at h
  repeat (rcases ite_some h with ⟨e, rfl⟩ | h'; (exact eq_of_beq e); (replace h := h'; clear h'))
  cases h
theorem boot_bi : ∀ b, bootBuiltins (nameB b) = some (valB b) ∧ nameB b ≠ "__name__" := by
  intro b; cases b <;> exact ⟨by decide +kernel, by decide +kernel⟩
theorem boot_ty : ∀ t, bootBuiltins (Str.ofString (tyName t)) = some (.type (tyName t)) ∧ Str.ofString (tyName t) ≠ "__name__" := by
  intro t; cases t <;> exact ⟨by decide +kernel, by decide +kernel⟩

noncomputable def allBI : List BI := [.len, .isinstance, .all, .tuple, .list, .sorted, .set, .int, .abs, .min, .max, .range, .zip, .enumerate, .dict]
theorem mem_allBI (b : BI) : b ∈ allBI := by cases b <;> decide
noncomputable def allTy : List Ty := [.int, .bool, .str, .tuple, .list]
theorem mem_allTy (b : Ty) : b ∈ allTy := by cases b <;> decide

/-- a name that the text leaves to the built-ins -/
noncomputable def freeName (q : Program) (loose : List Str) (x : Str) : Bool :=
  !startupNames.contains x && !loose.contains x && !((recsOf q).map (·.name)).contains x && !((litsOf q).map (·.1)).contains x && !((clssOf q loose).map (·.name)).contains x

noncomputable def fnsOf (q : Program) : List (Str × Nat) := (recsOf q).zipIdx.map fun (d, i) => (d.name, i)
noncomputable def psOf (d : DefRec) : List Str := d.params.args.map (·.arg)
noncomputable def plainParams (d : DefRec) : Bool := d.params.posonlyargs.isEmpty && d.params.kwonlyargs.isEmpty && d.params.vararg.isNone && d.params.kwarg.isNone
noncomputable def constEq (d : PyData) (v : V) : Bool := match d with
  | .int i => (match v with
    | .int j => decide (i = j)
    | _ => false)
  | .str s => (match v with
    | .str t => decide (s = t)
    | _ => false)
  | _ => false
theorem constEq_inv {d : PyData} {v : V} (h : constEq d v = true) : (∃ i, d = .int i ∧ v = .int i) ∨ ∃ s, d = .str s ∧ v = .str s := by
  cases d <;> first | (cases h; done) | skip
  · cases v <;> first | (cases h; done) | exact .inl ⟨_, rfl, by rw [of_decide_eq_true h]⟩
  · cases v <;> first | (cases h; done) | exact .inr ⟨_, rfl, by rw [of_decide_eq_true h]⟩
noncomputable def namesOk (q : Program) (loose : List Str) : Bool := allBI.all (fun b => freeName q loose (nameB b)) && allTy.all (fun t => freeName q loose (Str.ofString (tyName t)))
noncomputable def constsOk (q : Program) (gc : List (Str × V)) : Bool := gc.all fun (x, v) => match valOf q x with
  | some d => constEq d v
  | none => false

theorem lookup_fns {q : Program} {f : Str} {n : Nat} (h : (fnsOf q).lookup f = some n) : ∃ d, (recsOf q)[n]? = some d ∧ d.name = f := by
  have := lookup_mem h
  unfold fnsOf at this
  rw [List.mem_map] at this
  obtain ⟨⟨d, i⟩, hm, e⟩ := this
  simp only [Prod.mk.injEq] at e
  obtain ⟨e1, rfl⟩ := e
  rw [List.mem_zipIdx_iff_getElem?] at hm
  exact ⟨d, hm, e1⟩

section
variable {q prog : Program} {loose : List Str} {mean : ExcName → Option Value} {mg mb : Str → Option Value} {h : Heap} {w : World}

noncomputable def cxOf (prog : Program) (w : World) (h : Heap) (mg mb : Str → Option Value) : Cx := ⟨prog, w, h, fun x => match mg x with | some v => some v | none => mb x⟩

theorem base_of (T : Top q loose mean mg mb h) : BaseOk (cxOf prog w h mg mb) := by
  refine ⟨T.nolimit, mg, mb, T.g, T.b, fun x v e => ?_⟩
  have e' : (match mg x with | some v => some v | none => mb x) = some v := e
  split at e'
  · rename_i u hu; cases e'; exact .inl hu
  · rename_i hu; exact .inr ⟨hu, e'⟩

theorem free_of (T : Top q loose mean mg mb h) {x : Str} (hf : freeName q loose x = true) : mg x = none := by
  unfold freeName at hf
  simp only [Bool.and_eq_true, Bool.not_eq_true', List.contains_eq_mem, decide_eq_false_iff_not] at hf
  exact T.free x hf.1.1.1.1 hf.1.1.1.2 hf.1.1.2 hf.1.2 hf.2

theorem glk_of (T : Top q loose mean mg mb h) {gc : List (Str × V)} {bx : Pos → Bool} (hn : namesOk q loose = true) (hc : constsOk q gc = true) : Glk (cxOf prog w h mg mb) ⟨fnsOf q, gc, bx⟩ := by
  unfold namesOk at hn
  rw [Bool.and_eq_true, List.all_eq_true, List.all_eq_true] at hn
  refine ⟨fun x v e => ?_, fun x _ b hb => ?_, fun x t ht => ?_⟩
  · unfold constsOk at hc
    rw [List.all_eq_true] at hc
    have := hc _ (lookup_mem e)
    dsimp only at this
    split at this
    · rename_i d hd
      obtain ⟨u, h1, h2⟩ := T.const x d hd
      refine ⟨u, ?_, ?_⟩
      · show (match mg x with | some v => some v | none => mb x) = some u
        rw [h1]
      · have hr := h2 h
        rcases constEq_inv this with ⟨i, rfl, rfl⟩ | ⟨i, rfl, rfl⟩ <;> cases hr <;> simp only [RV] <;> exact ⟨_, rfl⟩
    · cases this
  · rw [biOf_name hb]
    show (match mg (nameB b) with | some v => some v | none => mb (nameB b)) = _
    rw [free_of T (hn.1 b (mem_allBI b))]
    dsimp only
    rw [T.builtins _ (boot_bi b).2, (boot_bi b).1]
    cases b <;> rfl
  · rw [tyNm_name ht]
    show (match mg (Str.ofString (tyName t)) with | some v => some v | none => mb (Str.ofString (tyName t))) = _
    rw [free_of T (hn.2 t (mem_allTy t))]
    dsimp only
    rw [T.builtins _ (boot_ty t).2, (boot_ty t).1]

/-- each def has its clean form -/
noncomputable def defsOk (q : Program) (G : Glob) (tf : Nat) (P : Nat → Option Fn) : Prop := ∀ n d, (recsOf q)[n]? = some d → plainParams d = true ∧ fnOk d.scope (psOf d) (namesIn d.scope) = true ∧
  ∃ cb, trSs G (namesIn d.scope) d.scope tf d.body = some cb ∧ P n = some ⟨(psOf d).length, (namesIn d.scope).length - (psOf d).length, cb⟩

theorem fns_of (T : Top q loose mean mg mb h) {gc : List (Str × V)} {bx : Pos → Bool} {tf : Nat} {P : Nat → Option Fn} (hd : defsOk q ⟨fnsOf q, gc, bx⟩ tf P) : FnsOk (cxOf prog w h mg mb) ⟨fnsOf q, gc, bx⟩ P tf := by
  refine ⟨fun f n e => ?_⟩
  obtain ⟨d, h1, rfl⟩ := lookup_fns e
  obtain ⟨hp, ho, cb, h2, h3⟩ := hd n d h1
  obtain ⟨a, o, pm, code, doc, g1, g2, g3, g4⟩ := T.fn d (List.mem_of_getElem? h1)
  have ok := fnOk_of ho
  refine ⟨psOf d, namesIn d.scope, d.scope, d.body, cb, a, o, _, ⟨?_, g2, g3, g4, rfl, rfl, rfl, rfl, rfl, fun vals hl => ?_⟩, ok, h2, h3⟩
  · show (match mg d.name with | some v => some v | none => mb d.name) = _
    rw [g1]
  · unfold plainParams at hp
    simp only [Bool.and_eq_true, List.isEmpty_iff, Option.isNone_iff_eq_none] at hp
    refine binds_plain hp.1.1.1 hp.1.1.2 hp.1.2 hp.2 rfl ?_ hl
    have := ok.nodup
    have hpre := ok.pre
    show (psOf d).Nodup
    rw [hpre]
    exact this.sublist (List.take_sublist _ _)
end
end Mine
end

section
set_option autoImplicit false
namespace Mine
open PySem PySem.W PyProof.Rows

theorem items_int {R : WRecords} : ∀ {xs : List WData}, WShape.hasItems R xs .int = true → ∃ is : List Int, xs = is.map WData.int
  | [], _ => ⟨[], rfl⟩
  | x :: xs, h => by
    have h : (WShape.has R x .int && WShape.hasItems R xs .int) = true := h
    rw [Bool.and_eq_true] at h
    obtain ⟨is, rfl⟩ := items_int h.2
    have h1 := h.1
    clear h
    cases x with
    | int i => exact ⟨i :: is, rfl⟩
    | _ => exact absurd (show false = true from h1) Bool.false_ne_true
theorem script_of {R : WRecords} {args : List WData} (h : WShape.hasAll R args [.list .int] = true) : ∃ is : List Int, args = [.list (is.map WData.int)] := by
  match args, h with
  | [], h => exact absurd (show false = true from h) Bool.false_ne_true
  | d :: _ :: _, h =>
    have h : (WShape.has R d (.list .int) && false) = true := h
    rw [Bool.and_false] at h; cases h
  | [d], h =>
    have h : (WShape.has R d (.list .int) && true) = true := h
    rw [Bool.and_true] at h
    cases d with
    | list xs =>
      have h : (WShape.hasItems R xs .int || false) = true := h
      rw [Bool.or_false] at h
      obtain ⟨is, rfl⟩ := items_int h
      exact ⟨is, rfl⟩
    | _ => exact absurd (show false = true from h) Bool.false_ne_true

theorem well_ints {P : Params} {h : Heap} : ∀ {vs : List Value} {is : List Int}, WellAll P h vs (is.map WData.int) → ∀ {W : Wd}, RVs W (is.map V.int) vs
  | _, [], w, W => by cases w; simp only [List.map_nil, RVs]
  | _, i :: is, w, W => by
    cases w with
    | cons w1 w2 =>
      cases w1
      simp only [List.map_cons, RVs]
      exact ⟨RV.int, well_ints w2⟩

theorem weight_ints : ∀ {is : List Int} {n : Nat}, WData.weightAll (is.map WData.int) ≤ n → is.length ≤ n ∧ ∀ i ∈ is, intBits i ≤ n
  | [], n, _ => ⟨Nat.zero_le _, by simp⟩
  | i :: is, n, h => by
    simp only [List.map_cons, WData.weightAll, WData.weight] at h
    obtain ⟨h1, h2⟩ := weight_ints (is := is) (n := n - 1) (by omega)
    refine ⟨by simp only [List.length_cons]; omega, fun j hj => ?_⟩
    rcases List.mem_cons.mp hj with rfl | hj
    · unfold intBits; omega
    · have := h2 j hj; omega

/-- the clean law: for every script that may be laid, the law's clean form gives True -/
noncomputable def CleanLaw (P : Nat → Option Fn) (fuel n : Nat) : Prop := ∀ is : List Int, is.length ≤ 1048576 → (∀ i ∈ is, intBits i ≤ 1048576) → ∃ fr, F P fuel 300 n [.lst (is.map V.int)] [] = some (.bool true, fr, [])

theorem walk_law {l : OpenLaw} {q : Program} {loose : List Str} {XP : (Str → Option Value) → Heap → Prop} {YP : World → Heap → Prop} {d : DefRec} {kwd : List (Str × PySem.Expr)} {gc : List (Str × V)} {bx : Pos → Bool} {tf fuel n : Nat} {P : Nat → Option Fn}
    (hn : namesOk q (looseW q loose) = true) (hc : constsOk q gc = true) (hd : defsOk q ⟨fnsOf q, gc, bx⟩ tf P) (hl : (fnsOf q).lookup d.name = some n) (law : CleanLaw P fuel n) :
    WalkO q loose XP YP l.row.toRowW d kwd (fun f vs => PySem.call f vs) := by
  intro w s₀ s₁ mg mb Gr Y fa o pm cd doc dV kV ho hdt hcd hD hmg hg args vals as hpre hlay hrd hwl hlo
  have T := Gr.T
  have hsh := (pre_splitW hpre).1
  obtain ⟨is, rfl⟩ := script_of hsh
  cases hwl with
  | @cons v vs _ _ hw1 hw2 =>
  cases hw2
  cases hw1 with
  | @list a us _ hobj hus =>
  have hB := base_of (prog := l.row.toRowW.prog) (w := w) T
  have hK := glk_of (prog := l.row.toRowW.prog) (w := w) (bx := bx) T hn hc
  have hF := fns_of (prog := l.row.toRowW.prog) (w := w) T hd
  have hO := OS_all (fuel := fuel) hB hK hF 300
  have hlay' : WData.layable (.list (is.map WData.int)) = true := by
    have := hlay
    simp only [WData.layableAll, List.all_cons, List.all_nil, Bool.and_true] at this
    exact this
  unfold WData.layable at hlay'
  simp only [Bool.and_eq_true, decide_eq_true_eq] at hlay'
  have hwt : WData.weightAll (is.map WData.int) ≤ 2 ^ 20 := hlay'.2
  obtain ⟨hlen, hbits⟩ := weight_ints hwt
  obtain ⟨fr, hlaw⟩ := law is (by omega) (fun i hi => by have := hbits i hi; omega)
  obtain ⟨fa', fo, fd, g1, g2, g3, run⟩ := hO n _ [] _ fr [] hlaw d.name hl
  have hfa : fa' = fa := by
    have g1' : (match mg d.name with | some v => some v | none => mb d.name) = some (.ref fa') := g1
    rw [hmg] at g1'
    cases g1'; rfl
  subst hfa
  let W0 : Wd := ⟨fun b => if b = a then some (sObj "list" us.toArray 0) else none, []⟩
  have S0 : SR (cxOf l.row.toRowW.prog w s₁.heap mg mb).B W0 [] s₁.heap := by
    refine ⟨fun b o e => e, fun b ob e => ?_, (fun b m => by cases m), (fun b m => by cases m), List.nodup_nil, rfl, (fun i o a e => by simp at e)⟩
    have e' : (if b = a then some (sObj "list" us.toArray 0) else none) = some ob := e
    split at e'
    · rename_i hb; cases e'; rw [hb]; exact hobj
    · cases e'
  have r0 : RVs W0 [.lst (is.map V.int)] [.ref a] := by
    simp only [RVs, RV, and_true]
    exact ⟨a, us.toArray, 0, rfl, if_pos rfl, well_ints hus⟩
  refine wpAny_call (codeAny_mono (run callerA s₁ W0 [.ref a] ⟨rfl, by decide, by decide⟩ S0 r0) fun r s' hr => ?_)
  obtain ⟨wv, rfl, _, W', t, S', rv, q⟩ := hr
  simp only [RV] at rv
  subst rv
  refine GoodW.toG ⟨.inl ⟨.bool true, .bool true, [], rfl, fun cls => rfl, .bool true, ?_, fun _ => ⟨List.nodup_nil, by simp⟩⟩, fun b o e => t.keep b o e (by simp [W0]), q.os, q.gens.trans hg⟩
  exact postW_of (by wrow_shape) (by wtm_val) (by w_fin)
end Mine
end

section
set_option autoImplicit false
namespace Mine
open PySem PySem.W PyProof.Rows

noncomputable def defF (G : Glob) (tf : Nat) (d : DefRec) : Option Fn :=
  if plainParams d && fnOk d.scope (psOf d) (namesIn d.scope) then (trSs G (namesIn d.scope) d.scope tf d.body).map fun cb => ⟨(psOf d).length, (namesIn d.scope).length - (psOf d).length, cb⟩ else none
noncomputable def defsF (q : Program) (G : Glob) (tf : Nat) : List (Option Fn) := (recsOf q).map (defF G tf)

theorem defsOk_of {q : Program} {G : Glob} {tf : Nat} {tab : List Fn} (h : defsF q G tf = tab.map some) : defsOk q G tf fun n => tab[n]? := by
  intro n d hd
  have h1 : (defsF q G tf)[n]? = some (defF G tf d) := by unfold defsF; rw [List.getElem?_map, hd]; rfl
  rw [h, List.getElem?_map, Option.map_eq_some_iff] at h1
  obtain ⟨f, h2, h3⟩ := h1
  have h3' := h3.symm
  unfold defF at h3'
  split at h3'
  · rename_i hc
    rw [Bool.and_eq_true] at hc
    rw [Option.map_eq_some_iff] at h3'
    obtain ⟨cb, h4, rfl⟩ := h3'
    exact ⟨hc.1, hc.2, cb, h4, h2⟩
  · cases h3'
end Mine
end

section
set_option autoImplicit false
namespace Mine
open PySem
noncomputable def fn_is_among : Fn := ⟨3, 0, [
  (.ret (.and [(.prim (.isinst [.int]) [(.var 0)]), (.not (.prim (.isinst [.bool]) [(.var 0)])), (.cmp (.var 1) [.LtE, .LtE] [(.var 0), (.var 2)])]))]⟩
noncomputable def fn_is_word : Fn := ⟨1, 1, [
  (.iff (.or [(.not (.prim (.isinst [.str]) [(.var 0)])), (.not (.cmp (.const (V.int (1))) [.LtE, .LtE] [(.prim .len [(.var 0)]), (.const (V.int (8)))]))]) [(.ret (.const (V.bool false)))] []),
  (.ret (.prim .all [(.frz (.comp (.slot 1) (.of (.var 0)) [] (.cmp (.var 1) [.In] [(.const (V.str (Str.ofString "abcdefghijklmnopqrstuvwxyz")))])))]))]⟩
noncomputable def fn_is_ways : Fn := ⟨2, 2, [
  (.iff (.or [(.not (.prim (.isinst [.tuple]) [(.var 0)])), (.not (.cmp (.const (V.int (1))) [.LtE, .LtE] [(.prim .len [(.var 0)]), (.const (V.int (6)))]))]) [(.ret (.const (V.bool false)))] []),
  (.assign (.slot 2) (.const (V.str (Str.ofString "")))),
  (.forr (.slot 3) (.of (.var 0)) [(.iff (.or [(.not (.prim (.isinst [.tuple]) [(.var 3)])), (.cmp (.prim .len [(.var 3)]) [.NotEq] [(.const (V.int (2)))]), (.not (.call 1 [(.sub (.var 3) (.const (V.int (0))))])), (.not (.call 0 [(.sub (.var 3) (.const (V.int (1)))), (.const (V.int (0))), (.bin .Sub (.var 1) (.const (V.int (1))))]))]) [(.ret (.const (V.bool false)))] []), (.iff (.cmp (.sub (.var 3) (.const (V.int (0)))) [.LtE] [(.var 2)]) [(.ret (.const (V.bool false)))] []), (.assign (.slot 2) (.sub (.var 3) (.const (V.int (0)))))]),
  (.ret (.const (V.bool true)))]⟩
noncomputable def fn_is_stop : Fn := ⟨2, 0, [
  (.iff (.or [(.not (.prim (.isinst [.tuple]) [(.var 0)])), (.cmp (.prim .len [(.var 0)]) [.Eq] [(.const (V.int (0)))]), (.not (.prim (.isinst [.str]) [(.sub (.var 0) (.const (V.int (0))))]))]) [(.ret (.const (V.bool false)))] []),
  (.iff (.cmp (.sub (.var 0) (.const (V.int (0)))) [.Eq] [(.const (V.str (Str.ofString "end")))]) [(.ret (.cmp (.prim .len [(.var 0)]) [.Eq] [(.const (V.int (1)))]))] []),
  (.ret (.and [(.cmp (.sub (.var 0) (.const (V.int (0)))) [.In] [(.tup [(.const (V.str (Str.ofString "send"))), (.const (V.str (Str.ofString "get")))])]), (.cmp (.prim .len [(.var 0)]) [.Eq] [(.const (V.int (2)))]), (.call 2 [(.sub (.var 0) (.const (V.int (1)))), (.var 1)])]))]⟩
noncomputable def fn_need_plan : Fn := ⟨1, 1, [
  (.iff (.or [(.not (.prim (.isinst [.list]) [(.var 0)])), (.not (.cmp (.const (V.int (1))) [.LtE, .LtE] [(.prim .len [(.var 0)]), (.const (V.int (12)))]))]) [.stuck] []),
  (.iff (.not (.prim .all [(.frz (.comp (.slot 1) (.of (.var 0)) [] (.call 3 [(.var 1), (.prim .len [(.var 0)])])))])) [.stuck] [])]⟩
noncomputable def fn_turned_stop : Fn := ⟨1, 0, [
  (.iff (.cmp (.sub (.var 0) (.const (V.int (0)))) [.Eq] [(.const (V.str (Str.ofString "send")))]) [(.ret (.tup [(.const (V.str (Str.ofString "get"))), (.sub (.var 0) (.const (V.int (1))))]))] []),
  (.iff (.cmp (.sub (.var 0) (.const (V.int (0)))) [.Eq] [(.const (V.str (Str.ofString "get")))]) [(.ret (.tup [(.const (V.str (Str.ofString "send"))), (.sub (.var 0) (.const (V.int (1))))]))] []),
  (.ret (.var 0))]⟩
noncomputable def fn_turned : Fn := ⟨1, 1, [
  (.expr (.call 4 [(.var 0)])),
  (.ret (.box (.comp (.slot 1) (.of (.var 0)) [] (.call 5 [(.var 1)]))))]⟩
noncomputable def fn__law_cell_at : Fn := ⟨2, 0, [
  (.iff (.cmp (.var 1) [.Lt] [(.prim .len [(.var 0)])]) [(.ret (.sub (.var 0) (.var 1)))] []),
  (.ret (.const (V.int (0))))]⟩
noncomputable def fn__law_mixed : Fn := ⟨2, 0, [
  (.ret (.bin .Mod (.bin .Mult (.bin .Pow (.bin .Add (.bin .Add (.var 0) (.bin .Mult (.const (V.int (7919))) (.var 1))) (.const (V.int (11)))) (.const (V.int (3)))) (.const (V.int (69621)))) (.const (V.int (2147483647)))))]⟩
noncomputable def fn__law_words : Fn := ⟨1, 8, [
  (.assign (.slot 1) (.const (V.str (Str.ofString "abcdefghijklmnopqrstuvwxyz")))),
  (.assign (.slot 2) (.bin .Add (.const (V.int (1))) (.bin .Mod (.bin .FloorDiv (.var 0) (.const (V.int (3)))) (.const (V.int (8)))))),
  (.assign (.slot 3) (.box (.disp []))),
  (.forr (.slot 4) (.range (.const (V.int (6)))) [(.assign (.slot 6) (.box (.comp (.slot 5) (.range (.var 2)) [] (.sub (.var 1) (.bin .Mod (.bin .Add (.bin .FloorDiv (.var 0) (.const (V.int (24)))) (.bin .Mult (.const (V.int (5))) (.var 5))) (.const (V.int (26)))))))), (.assign (.slot 7) (.bin .Mod (.bin .FloorDiv (.var 0) (.const (V.int (5)))) (.var 2))), (.setItem (.sub (.var 1) (.bin .Mod (.bin .Add (.bin .FloorDiv (.var 0) (.const (V.int (7)))) (.bin .Mult (.const (V.int (4))) (.var 4))) (.const (V.int (26))))) (.var 6) (.var 7)), (.assign (.slot 8) (.prim .join [(.var 6)])), (.iff (.cmp (.bin .Mod (.var 0) (.const (V.int (3)))) [.Eq] [(.const (V.int (1)))]) [(.assign (.slot 8) (.prim .join [(.frz (.comp (.slot 5) (.range (.bin .Add (.bin .Add (.var 4) (.const (V.int (1)))) (.bin .Mod (.bin .FloorDiv (.var 0) (.const (V.int (5)))) (.const (V.int (3)))))) [] (.sub (.var 1) (.bin .Mod (.bin .Add (.bin .FloorDiv (.var 0) (.const (V.int (24)))) (.bin .Mult (.const (V.int (3))) (.var 5))) (.const (V.int (26)))))))]))] []), (.iff (.cmp (.bin .Mod (.var 0) (.const (V.int (3)))) [.Eq] [(.const (V.int (2)))]) [(.assign (.slot 8) (.prim .join [(.frz (.comp (.slot 5) (.range (.bin .Add (.const (V.int (1))) (.bin .Mod (.bin .Add (.bin .FloorDiv (.var 0) (.const (V.int (3)))) (.var 4)) (.const (V.int (8)))))) [] (.sub (.var 1) (.bin .Mod (.call 8 [(.var 0), (.bin .Add (.bin .Mult (.const (V.int (9))) (.var 4)) (.var 5))]) (.const (V.int (26)))))))]))] []), (.expr (.eff .append [(.var 3), (.var 8)]))]),
  (.iff (.cmp (.prim .setlen [(.var 3)]) [.Lt] [(.const (V.int (6)))]) [(.ret (.frz (.disp [(.const (V.str (Str.ofString "ab"))), (.const (V.str (Str.ofString "abc"))), (.const (V.str (Str.ofString "b"))), (.const (V.str (Str.ofString "ba"))), (.const (V.str (Str.ofString "bab"))), (.const (V.str (Str.ofString "c")))])))] []),
  (.ret (.frz (.sorted (.var 3))))]⟩
noncomputable def fn__law_plan : Fn := ⟨2, 9, [
  (.assign (.slot 2) (.bin .Add (.const (V.int (1))) (.bin .Mod (.var 0) (.const (V.int (7)))))),
  (.iff (.cmp (.bin .Mod (.bin .FloorDiv (.var 0) (.const (V.int (7)))) (.const (V.int (8)))) [.Eq] [(.const (V.int (1)))]) [(.assign (.slot 2) (.bin .Add (.const (V.int (1))) (.bin .Mod (.var 0) (.const (V.int (12))))))] []),
  (.assign (.slot 3) (.box (.disp []))),
  (.forr (.slot 4) (.range (.var 2)) [(.assign (.slot 5) (.call 8 [(.bin .FloorDiv (.var 0) (.const (V.int (56)))), (.bin .Mult (.const (V.int (20))) (.var 4))])), (.assign (.slot 6) (.sub (.frz (.disp [(.const (V.str (Str.ofString "send"))), (.const (V.str (Str.ofString "get"))), (.const (V.str (Str.ofString "send"))), (.const (V.str (Str.ofString "get"))), (.const (V.str (Str.ofString "end"))), (.const (V.str (Str.ofString "send"))), (.const (V.str (Str.ofString "get")))])) (.bin .Mod (.var 5) (.const (V.int (7)))))), (.iff (.or [(.cmp (.var 6) [.Eq] [(.const (V.str (Str.ofString "end")))]), (.and [(.cmp (.var 4) [.Gt] [(.const (V.int (0)))]), (.cmp (.var 4) [.Eq] [(.bin .Sub (.var 2) (.const (V.int (1))))]), (.cmp (.bin .Mod (.bin .FloorDiv (.var 5) (.const (V.int (5)))) (.const (V.int (3)))) [.Gt] [(.const (V.int (0)))])])]) [(.expr (.eff .append [(.var 3), (.tup [(.const (V.str (Str.ofString "end")))])]))] [(.assign (.slot 7) (.sub (.frz (.disp [(.const (V.int (1))), (.const (V.int (2))), (.const (V.int (1))), (.const (V.int (3))), (.const (V.int (2))), (.const (V.int (6)))])) (.bin .Mod (.bin .FloorDiv (.var 5) (.const (V.int (15)))) (.const (V.int (6)))))), (.assign (.slot 9) (.frz (.comp (.slot 8) (.range (.var 7)) [] (.sub (.var 1) (.bin .Mod (.bin .Add (.bin .FloorDiv (.var 5) (.const (V.int (90)))) (.var 8)) (.const (V.int (6)))))))), (.assign (.slot 10) (.frz (.comp (.slot 8) (.range (.var 7)) [] (.tup [(.sub (.var 9) (.var 8)), (.call 11 [(.var 0), (.var 4), (.var 8), (.var 2)])])))), (.expr (.eff .append [(.var 3), (.tup [(.var 6), (.prim .tuple [(.frz (.sorted (.var 10)))])])]))])]),
  (.ret (.var 3))]⟩
noncomputable def fn__law_goal : Fn := ⟨4, 1, [
  (.assign (.slot 4) (.call 8 [(.bin .FloorDiv (.var 0) (.const (V.int (56)))), (.bin .Add (.bin .Add (.bin .Mult (.const (V.int (20))) (.var 1)) (.const (V.int (7)))) (.var 2))])),
  (.ret (.sub (.frz (.disp [(.prim .min [(.bin .Add (.var 1) (.const (V.int (1)))), (.bin .Sub (.var 3) (.const (V.int (1))))]), (.prim .min [(.bin .Add (.var 1) (.const (V.int (1)))), (.bin .Sub (.var 3) (.const (V.int (1))))]), (.bin .Mod (.bin .FloorDiv (.var 4) (.const (V.int (4)))) (.var 3)), (.const (V.int (0)))])) (.bin .Mod (.var 4) (.const (V.int (4))))))]⟩
noncomputable def fn__law_turned : Fn := ⟨1, 2, [
  (.assign (.slot 1) (.box (.disp []))),
  (.forr (.slot 2) (.of (.var 0)) [(.iff (.cmp (.sub (.var 2) (.const (V.int (0)))) [.Eq] [(.const (V.str (Str.ofString "end")))]) [(.expr (.eff .append [(.var 1), (.tup [(.const (V.str (Str.ofString "end")))])]))] [(.expr (.eff .append [(.var 1), (.tup [(.sub (.frz (.disp [(.const (V.str (Str.ofString "send"))), (.const (V.str (Str.ofString "get")))])) (.prim .intOf [(.cmp (.sub (.var 2) (.const (V.int (0)))) [.Eq] [(.const (V.str (Str.ofString "send")))])])), (.sub (.var 2) (.const (V.int (1))))])]))])]),
  (.ret (.var 1))]⟩
noncomputable def fn__law_same : Fn := ⟨2, 2, [
  (.iff (.prim (.isinst [.tuple, .list]) [(.var 1)]) [(.iff (.or [(.cmp (.prim (.isinst [.list]) [(.var 0)]) [.NotEq] [(.prim (.isinst [.list]) [(.var 1)])]), (.not (.prim (.isinst [.tuple, .list]) [(.var 0)]))]) [(.ret (.const (V.bool false)))] []), (.ret (.and [(.cmp (.prim .len [(.var 0)]) [.Eq] [(.prim .len [(.var 1)])]), (.prim .all [(.frz (.comp (.tup [2, 3]) (.zip (.var 0) (.var 1)) [] (.call 13 [(.var 2), (.var 3)])))])]))] []),
  (.iff (.or [(.prim (.isinst [.bool]) [(.var 0)]), (.cmp (.prim (.isinst [.str]) [(.var 0)]) [.NotEq] [(.prim (.isinst [.str]) [(.var 1)])])]) [(.ret (.const (V.bool false)))] []),
  (.ret (.cmp (.var 0) [.Eq] [(.var 1)]))]⟩
noncomputable def fn_law : Fn := ⟨1, 3, [
  (.assign (.slot 1) (.call 10 [(.call 7 [(.var 0), (.const (V.int (1)))]), (.call 9 [(.call 7 [(.var 0), (.const (V.int (0)))])])])),
  (.assign (.slot 2) (.box (.listOf (.var 1)))),
  (.assign (.slot 3) (.box (.call 6 [(.var 2)]))),
  (.iff (.or [(.not (.call 13 [(.var 3), (.call 12 [(.var 1)])])), (.not (.call 13 [(.call 6 [(.var 3)]), (.var 1)])), (.cmp (.var 2) [.NotEq] [(.var 1)])]) [(.ret (.const (V.bool false)))] []),
  (.expr (.eff .clear [(.var 3)])),
  (.setItem (.tup [(.const (V.str (Str.ofString "end")))]) (.var 2) (.const (V.int (0)))),
  (.ret (.and [(.call 13 [(.call 6 [(.frz (.listOf (.var 1)))]), (.call 12 [(.var 1)])]), (.call 13 [(.frz (.slice (.call 6 [(.var 2)]) none (some (.const (V.int (1)))))), (.frz (.disp [(.tup [(.const (V.str (Str.ofString "end")))])]))])]))]⟩
noncomputable def tab02 : List Fn := [fn_is_among, fn_is_word, fn_is_ways, fn_is_stop, fn_need_plan, fn_turned_stop, fn_turned, fn__law_cell_at, fn__law_mixed, fn__law_words, fn__law_plan, fn__law_goal, fn__law_turned, fn__law_same, fn_law]
noncomputable def P02 (n : Nat) : Option Fn := tab02[n]?
end Mine
end

section
set_option autoImplicit false
namespace Mine
open PySem

theorem okAll_self (n : Nat) : ∀ H : Hp, okAll n H H = true
  | [] => rfl
  | o :: H => by simp [okAll, okAll_self n H]
theorem finish_same {H : Hp} {v : V} (h : v.ok H.length = true) : finish H H v = some (v, isNewRef H H.length v, H) := by
  simp [finish, frzV, h, okAll_self]
theorem isNew_ok {H : Hp} {v : V} (h : v.ok H.length = true) : isNewRef H H.length v = false := by
  cases v <;> simp [isNewRef]
  rename_i i
  simp [V.ok] at h
  intro h2; omega
theorem fin_ok {H : Hp} {v : V} (h : v.ok H.length = true) : finish H H v = some (v, false, H) := by rw [finish_same h, isNew_ok h]
theorem fin_bool (H : Hp) (b : Bool) : finish H H (.bool b) = some (.bool b, false, H) := fin_ok rfl
theorem fin_int (H : Hp) (b : Int) : finish H H (.int b) = some (.int b, false, H) := fin_ok rfl
theorem fin_none (H : Hp) : finish H H .none = some (.none, false, H) := fin_ok rfl

noncomputable abbrev FF (k : Nat) := F P02 0 k

theorem among_spec (k : Nat) (x a b : Int) (H : Hp) : FF (k + 1) 0 [.int x, .int a, .int b] H = some (.bool (decide (a ≤ x) && decide (x ≤ b)), false, H) := by
  simp only [FF, F, P02, tab02, fn_is_among, List.getElem?_cons_zero]
  simp [evalSs, evalS, evalE, evalEs, evalAnd, evalCmp, primV, isinstV, anyO, isTyH, isTy, truthyV, cmpV]
  by_cases h1 : a ≤ x <;> by_cases h2 : x ≤ b <;> simp [h1, h2, fin_bool]

/-- the signs of a word -/
noncomputable def GoodW (s : Str) : Prop := 1 ≤ s.length ∧ s.length ≤ 8 ∧ ∀ c ∈ s.cps.toList, 97 ≤ c ∧ c ≤ 122

theorem contains_letter {c : Nat} (h1 : 97 ≤ c) (h2 : c ≤ 122) : Txt.contains (Str.ofString "abcdefghijklmnopqrstuvwxyz") ⟨#[c]⟩ = true := by
  have : ∀ d : Fin 26, Txt.contains (Str.ofString "abcdefghijklmnopqrstuvwxyz") ⟨#[97 + d.val]⟩ = true := by decide +kernel
  have := this ⟨c - 97, by omega⟩
  simpa [Nat.add_sub_cancel' h1] using this

theorem compL_all {f : V → Option (Option V)} {g : V → V} : ∀ {xs : List V}, (∀ x ∈ xs, f x = some (some (g x))) → compL f xs = some (xs.map g)
  | [], _ => rfl
  | x :: xs, h => by
    simp only [compL, h x List.mem_cons_self, compL_all fun y hy => h y (List.mem_cons_of_mem _ hy), List.map_cons]

theorem boolsOf_true {α : Type} : ∀ (xs : List α), boolsOf (xs.map fun _ => V.bool true) = some (xs.map fun _ => true)
  | [] => rfl
  | x :: xs => by simp only [List.map_cons, boolsOf, boolsOf_true xs, Option.map_some]

theorem all_const {α : Type} (xs : List α) : (xs.map fun _ => true).all id = true := by simp

theorem word_spec (k : Nat) {s : Str} (h : GoodW s) (H : Hp) : FF (k + 1) 1 [.str s] H = some (.bool true, false, H) := by
  obtain ⟨h1, h2, h3⟩ := h
  have hl : s.length ≤ lid := by unfold lid; omega
  have c1 : ((1 : Int) ≤ s.length) := by omega
  have c2 : ((s.length : Int) ≤ 8) := by omega
  have hsz : s.cps.toList.length ≤ lid := by have : s.cps.toList.length = s.length := by simp [Str.length]
                                             omega
  simp only [FF, F, P02, tab02, fn_is_word, List.getElem?_cons_succ, List.getElem?_cons_zero]
  simp [evalSs, evalS, evalE, evalEs, evalOr, evalCmp, primV, isinstV, anyO, isTyH, isTy, truthyV, cmpV, lenV, hl, c1, c2, evalL, evalIt, iterV]
  rw [compL_all (g := fun _ => .bool true) (by
    intro x hx
    rw [List.mem_map] at hx
    obtain ⟨c, hc, rfl⟩ := hx
    obtain ⟨a, b⟩ := h3 c hc
    simp [bindT, evalIfs, evalE, evalCmp, cmpV, inV, contains_letter a b])]
  simp only [Option.bind_some, List.length_map]
  rw [if_pos hsz]
  simp only [frzO, Option.map_some, allV, V.items, boolsOf_true, all_const, fin_bool]
end Mine
end

section
set_option autoImplicit false
namespace Mine
open PySem

theorem forL_inv {step : V → Loc → Hp → Option (Fl × Loc × Hp)} {G : List Nat} {H0 : Hp} (Inv : List V → Loc → Hp → Prop)
    (hs : ∀ x xs ρ H, Inv (x :: xs) ρ H → (∀ i ∈ G, H[i]? = H0[i]?) ∧ ∃ ρ' H', step x ρ H = some (.next, ρ', H') ∧ Inv xs ρ' H') (h0 : ∀ ρ H, Inv [] ρ H → ∀ i ∈ G, H[i]? = H0[i]?) :
    ∀ xs ρ H, Inv xs ρ H → ∃ ρ' H', forL step G H0 xs ρ H = some (.next, ρ', H') ∧ Inv [] ρ' H'
  | [], ρ, H, hi => by
    refine ⟨ρ, H, ?_, hi⟩
    simp only [forL]
    rw [if_pos (by rw [List.all_eq_true]; intro i m; exact decide_eq_true (h0 ρ H hi i m))]
  | x :: xs, ρ, H, hi => by
    obtain ⟨hg, ρ', H', e, hi'⟩ := hs x xs ρ H hi
    simp only [forL]
    rw [if_pos (by rw [List.all_eq_true]; intro i m; exact decide_eq_true (hg i m)), e]
    exact forL_inv Inv hs h0 xs ρ' H' hi'

theorem for_inv {c : Ctx} {t : T} {it : It} {body : List S} {ρ : Loc} {H : Hp} {xs : List V} {G : List Nat} {H1 : Hp} (e : evalIt c it ρ H = some (xs, G, H1)) (Inv : List V → Loc → Hp → Prop)
    (hs : ∀ x xs ρ H, Inv (x :: xs) ρ H → (∀ i ∈ G, H[i]? = H1[i]?) ∧ ∃ ρ1 ρ' H', bindT t x ρ = some ρ1 ∧ evalSs c body ρ1 H = some (.next, ρ', H') ∧ Inv xs ρ' H') (h0 : ∀ ρ H, Inv [] ρ H → ∀ i ∈ G, H[i]? = H1[i]?)
    (hi : Inv xs ρ H1) : ∃ ρ' H', evalS c (.forr t it body) ρ H = some (.next, ρ', H') ∧ Inv [] ρ' H' := by
  simp only [evalS, e]
  refine forL_inv Inv (fun x xs ρ H hi => ?_) h0 xs ρ H1 hi
  obtain ⟨hg, ρ1, ρ', H', e1, e2, e3⟩ := hs x xs ρ H hi
  exact ⟨hg, ρ', H', by simp only [e1, e2], e3⟩

theorem comp_eval {c : Ctx} {t : T} {it : It} {ifs : List E} {elt : E} {ρ : Loc} {H : Hp} {xs : List V} {G : List Nat} {H1 : Hp} (g : V → V) (e : evalIt c it ρ H = some (xs, G, H1))
    (h : ∀ x ∈ xs, ∃ ρ1, bindT t x ρ = some ρ1 ∧ evalIfs c ifs ρ1 H1 = some true ∧ evalE c elt ρ1 H1 = some (g x, H1)) (hl : xs.length ≤ lid) : evalL c (.comp t it ifs elt) ρ H = some (.list (xs.map g), H1) := by
  simp only [evalL, e]
  rw [compL_all (g := g) fun x hx => by
    obtain ⟨ρ1, h1, h2, h3⟩ := h x hx
    simp only [h1, h2, h3, if_true]]
  simp only [Option.bind_some, List.length_map, if_pos hl]

noncomputable def wv (x : Str × Int) : V := .tup [.str x.1, .int x.2]
/-- ascending words -/
noncomputable def Asc : Str → List (Str × Int) → Prop
  | _, [] => True
  | last, x :: r => strLt last x.1 = true ∧ Asc x.1 r
structure GoodWays (many : Int) (ws : List (Str × Int)) : Prop where
  lo : 1 ≤ ws.length
  hi : ws.length ≤ 6
  words : ∀ x ∈ ws, GoodW x.1
  goals : ∀ x ∈ ws, 0 ≤ x.2 ∧ x.2 ≤ many - 1
  asc : Asc (Str.ofString "") ws

theorem evalSs_cons {c : Ctx} {s : S} {ss : List S} {ρ ρ' : Loc} {H H' : Hp} (h : evalS c s ρ H = some (.next, ρ', H')) : evalSs c (s :: ss) ρ H = evalSs c ss ρ' H' := by
  simp only [evalSs, h]

theorem idx0 {n : Nat} : idx 0 (n + 1) = some 0 := if_pos ⟨by decide, by omega, by decide⟩
theorem idx1 {n : Nat} : idx 1 (n + 2) = some 1 := if_pos ⟨by decide, by omega, by decide⟩

theorem ways_spec (k : Nat) {many : Int} {ws : List (Str × Int)} (h : GoodWays many ws) (H : Hp) : FF (k + 2) 2 [.tup (ws.map wv), .int many] H = some (.bool true, false, H) := by
  obtain ⟨h1, h2, h3, h4, h5⟩ := h
  have hl : ws.length ≤ lid := by unfold lid; omega
  have c1 : ((1 : Int) ≤ ws.length) := by omega
  have c2 : ((ws.length : Int) ≤ 6) := by omega
  rw [FF, F]
  simp only [P02, tab02, fn_is_ways, List.getElem?_cons_succ, List.getElem?_cons_zero, List.length_cons, List.length_nil, if_true, List.map_cons, List.map_nil, List.cons_append, List.nil_append, List.replicate]
  rw [evalSs_cons (ρ' := [some (.tup (ws.map wv)), some (.int many), none, none]) (H' := H) (by
    simp [evalS, evalE, evalEs, evalOr, evalCmp, primV, isinstV, anyO, isTyH, isTy, truthyV, cmpV, lenV, V.items, hl, c1, c2, evalSs])]
  rw [evalSs_cons (ρ' := [some (.tup (ws.map wv)), some (.int many), some (.str (Str.ofString "")), none]) (H' := H) (by
    simp [evalS, evalE, bindT])]
  obtain ⟨ρ', H', e, rfl, _⟩ := for_inv (c := ⟨F P02 0 (k + 1), 0⟩) (t := .slot 3) (it := .of (.var 0)) (ρ := [some (.tup (ws.map wv)), some (.int many), some (.str (Str.ofString "")), none]) (H := H) (xs := ws.map wv) (G := []) (H1 := H)
    (body := [(.iff (.or [(.not (.prim (.isinst [.tuple]) [(.var 3)])), (.cmp (.prim .len [(.var 3)]) [.NotEq] [(.const (V.int (2)))]), (.not (.call 1 [(.sub (.var 3) (.const (V.int (0))))])), (.not (.call 0 [(.sub (.var 3) (.const (V.int (1)))), (.const (V.int (0))), (.bin .Sub (.var 1) (.const (V.int (1))))]))]) [(.ret (.const (V.bool false)))] []), (.iff (.cmp (.sub (.var 3) (.const (V.int (0)))) [.LtE] [(.var 2)]) [(.ret (.const (V.bool false)))] []), (.assign (.slot 2) (.sub (.var 3) (.const (V.int (0)))))])
    (by simp [evalIt, evalE, iterV, guardOf])
    (fun xs ρ H' => H' = H ∧ ∃ r last o3, xs = r.map wv ∧ Asc last r ∧ (∀ x ∈ r, x ∈ ws) ∧ ρ = [some (.tup (ws.map wv)), some (.int many), some (.str last), o3])
    (by
      rintro x xs ρ H' ⟨rfl, r, last, o3, e, ha, hm, rfl⟩
      cases r with
      | nil => cases e
      | cons y r =>
        simp only [List.map_cons, List.cons.injEq] at e
        obtain ⟨rfl, rfl⟩ := e
        obtain ⟨s, i⟩ := y
        have hg := h3 _ (hm _ List.mem_cons_self)
        have hgo := h4 _ (hm _ List.mem_cons_self)
        have hw := word_spec k hg H'
        have hmg := among_spec k i 0 (many - 1) H'
        refine ⟨by simp, [some (.tup (ws.map wv)), some (.int many), some (.str last), some (wv (s, i))], [some (.tup (ws.map wv)), some (.int many), some (.str s), some (wv (s, i))], H', by simp [bindT], ?_, rfl, r, s, _, rfl, ha.2, fun x hx => hm x (List.mem_cons_of_mem _ hx), rfl⟩
        have hlt : strLt last s = true := ha.1
        simp only [FF] at hw hmg
        simp [evalSs, evalS, evalE, evalEs, evalOr, evalCmp, primV, isinstV, anyO, isTyH, isTy, truthyV, cmpV, veq, lenV, V.items, wv, subV, idx, hw, hmg, hgo.1, hgo.2, binV, ibin, hlt, bindT, lid])
    (by simp)
    ⟨rfl, ws, _, _, rfl, h5, fun _ h => h, rfl⟩
  rw [evalSs_cons e]
  simp [evalSs, evalS, evalE, fin_bool]
end Mine
end

section
set_option autoImplicit false
namespace Mine
open PySem

inductive Stp where
  | fin
  | go (send : Bool) (ways : List (Str × Int))
noncomputable def kindS (b : Bool) : Str := if b then Str.ofString "send" else Str.ofString "get"
noncomputable def Stp.v : Stp → V
  | .fin => .tup [.str (Str.ofString "end")]
  | .go b ws => .tup [.str (kindS b), .tup (ws.map wv)]
noncomputable def Stp.turn : Stp → Stp
  | .fin => .fin
  | .go b ws => .go (!b) ws
noncomputable def GoodStp (many : Int) : Stp → Prop
  | .fin => True
  | .go _ ws => GoodWays many ws
structure GoodPlan (ps : List Stp) : Prop where
  lo : 1 ≤ ps.length
  hi : ps.length ≤ 12
  stops : ∀ p ∈ ps, GoodStp ps.length p

theorem oks_ways (n : Nat) : ∀ ws : List (Str × Int), V.oks n (ws.map wv) = true
  | [] => rfl
  | x :: ws => by simp [V.oks, V.ok, wv, oks_ways n ws]
theorem Stp.ok (n : Nat) (p : Stp) : p.v.ok n = true := by
  cases p <;> simp [Stp.v, V.ok, V.oks, oks_ways]
theorem oks_stps (n : Nat) : ∀ ps : List Stp, V.oks n (ps.map Stp.v) = true
  | [] => rfl
  | p :: ps => by simp [V.oks, Stp.ok, oks_stps n ps]

theorem end_ne_send : (Str.ofString "end" == Str.ofString "send") = false := by decide +kernel
theorem end_ne_get : (Str.ofString "end" == Str.ofString "get") = false := by decide +kernel
theorem get_ne_send : (Str.ofString "get" == Str.ofString "send") = false := by decide +kernel
theorem send_ne_end : (Str.ofString "send" == Str.ofString "end") = false := by decide +kernel
theorem get_ne_end : (Str.ofString "get" == Str.ofString "end") = false := by decide +kernel

theorem tstop_spec (k : Nat) (p : Stp) (H : Hp) : FF (k + 1) 5 [p.v] H = some (p.turn.v, false, H) := by
  rw [FF, F]
  simp only [P02, tab02, fn_turned_stop, List.getElem?_cons_succ, List.getElem?_cons_zero, List.length_cons, List.length_nil, if_true, List.map_cons, List.map_nil, List.cons_append, List.nil_append, List.replicate]
  have fin : finish H H p.turn.v = some (p.turn.v, false, H) := fin_ok (Stp.ok _ _)
  cases p with
  | fin =>
    simp only [Stp.v, Stp.turn] at fin ⊢
    simp [evalSs, evalS, evalE, evalEs, evalCmp, cmpV, veq, truthyV, subV, idx, V.items, end_ne_send, end_ne_get, fin]
  | go b ws =>
    cases b
    · simp only [Stp.v, Stp.turn, kindS] at fin ⊢
      simp only [Bool.not_false, if_true, Bool.false_eq_true, if_false] at fin ⊢
      simp [evalSs, evalS, evalE, evalEs, evalCmp, cmpV, veq, truthyV, subV, idx, V.items, get_ne_send, fin]
    · simp only [Stp.v, Stp.turn, kindS] at fin ⊢
      simp only [Bool.not_true, if_true, Bool.false_eq_true, if_false] at fin ⊢
      simp [evalSs, evalS, evalE, evalEs, evalCmp, cmpV, veq, truthyV, subV, idx, V.items, fin]

theorem in_kinds (b : Bool) (H : Hp) : inV H (.str (kindS b)) (.tup [.str (Str.ofString "send"), .str (Str.ofString "get")]) = some true := by
  cases b <;> simp [inV, toPy, depthE, mapO, kindS] <;> decide +kernel

theorem stop_spec (k : Nat) {many : Int} {p : Stp} (h : GoodStp many p) (H : Hp) : FF (k + 3) 3 [p.v, .int many] H = some (.bool true, false, H) := by
  rw [FF, F]
  simp only [P02, tab02, fn_is_stop, List.getElem?_cons_succ, List.getElem?_cons_zero, List.length_cons, List.length_nil, if_true, List.map_cons, List.map_nil, List.cons_append, List.nil_append, List.replicate]
  cases p with
  | fin =>
    simp [Stp.v, evalSs, evalS, evalE, evalEs, evalOr, evalCmp, cmpV, veq, truthyV, subV, idx, V.items, primV, isinstV, anyO, isTyH, isTy, lenV, lid, fin_bool]
  | go b ws =>
    have hw := ways_spec k h H
    have hk : (kindS b == Str.ofString "end") = false := by cases b <;> decide +kernel
    simp only [FF] at hw
    simp [Stp.v, evalSs, evalS, evalE, evalEs, evalOr, evalAnd, evalCmp, cmpV, veq, truthyV, subV, idx, V.items, primV, isinstV, anyO, isTyH, isTy, lenV, lid, fin_bool, hk, in_kinds, hw]

/-- a plan, frozen or boxed -/
inductive PlanAt (H : Hp) (xs : List V) : V → Prop
  | lst : PlanAt H xs (.lst xs)
  | ref (i : Nat) : H[i]? = some (.list xs) → PlanAt H xs (.ref i)
theorem PlanAt.items {H : Hp} {xs : List V} {v : V} (h : PlanAt H xs v) : v.items H = some xs := by
  cases h with
  | lst => rfl
  | ref i e => simp only [V.items, e]
theorem PlanAt.iter {H : Hp} {xs : List V} {v : V} (h : PlanAt H xs v) : iterV H v = some xs := by
  cases h with
  | lst => rfl
  | ref i e => simp only [iterV, e]
theorem PlanAt.isList {H : Hp} {xs : List V} {v : V} (h : PlanAt H xs v) : isTyH H .list v = some true := by
  cases h with
  | lst => rfl
  | ref i e => simp only [isTyH, e]; rfl
theorem PlanAt.len {H : Hp} {xs : List V} {v : V} (h : PlanAt H xs v) (hl : xs.length ≤ lid) : lenV H [v] = some (.int xs.length) := by
  cases h with
  | lst => simp [lenV, V.items, hl]
  | ref i e => simp [lenV, V.items, e, hl]

theorem need_spec (k : Nat) {ps : List Stp} (h : GoodPlan ps) {H : Hp} {v : V} (hp : PlanAt H (ps.map Stp.v) v) : FF (k + 4) 4 [v] H = some (.none, false, H) := by
  obtain ⟨h1, h2, h3⟩ := h
  have hl : (ps.map Stp.v).length ≤ lid := by unfold lid; simp only [List.length_map]; omega
  have c1 : ((1 : Int) ≤ ps.length) := by omega
  have c2 : ((ps.length : Int) ≤ 12) := by omega
  have hlen := hp.len hl
  rw [List.length_map] at hlen
  rw [FF, F]
  simp only [P02, tab02, fn_need_plan, List.getElem?_cons_succ, List.getElem?_cons_zero, List.length_cons, List.length_nil, if_true, List.map_cons, List.map_nil, List.cons_append, List.nil_append, List.replicate]
  rw [evalSs_cons (ρ' := [some v, none]) (H' := H) (by
    simp [evalS, evalE, evalEs, evalOr, evalCmp, primV, isinstV, anyO, hp.isList, truthyV, cmpV, hlen, c1, c2, evalSs])]
  have hc := comp_eval (c := ⟨F P02 0 (k + 3), 0⟩) (t := .slot 1) (it := .of (.var 0)) (ifs := []) (elt := .call 3 [(.var 1), (.prim .len [(.var 0)])]) (ρ := [some v, none]) (H := H) (H1 := H) (fun _ => .bool true)
    (show evalIt _ (.of (.var 0)) [some v, none] H = some (ps.map Stp.v, guardOf v, H) by simp [evalIt, evalE, hp.iter])
    (by
      intro x hx
      rw [List.mem_map] at hx
      obtain ⟨p, hpm, rfl⟩ := hx
      have hs := stop_spec k (h3 p hpm) H
      simp only [FF] at hs
      exact ⟨[some v, some p.v], by simp [bindT], rfl, by simp [evalE, evalEs, primV, hlen, hs]⟩) hl
  simp only [evalSs, evalS, evalE, evalEs, hc, frzO, Option.map_some, primV, allV, V.items, boolsOf_true, all_const, truthyV, Bool.not_true, fin_none]
end Mine
end

section
set_option autoImplicit false
namespace Mine
open PySem

theorem okAll_app (n : Nat) : ∀ H K : Hp, okAll n H (H ++ K) = true
  | [], _ => rfl
  | o :: H, K => by simp [okAll, okAll_app n H K]
theorem mapO_frz {H : Hp} {n k : Nat} : ∀ {xs : List V}, V.oks n xs = true → mapO (frzV H n k) xs = some xs
  | [], _ => rfl
  | x :: xs, h => by
    simp only [V.oks, Bool.and_eq_true] at h
    have hx : frzV H n k x = some x := by cases k <;> simp only [frzV, h.1, if_true]
    simp only [mapO, hx, mapO_frz h.2]
theorem frz_ref {H : Hp} {n k i : Nat} {xs : List V} (hno : ¬ ((V.ref i).ok n = true)) (hg : H[i]? = some (.list xs)) (h : V.oks n xs = true) : frzV H n (k + 1) (.ref i) = some (.lst xs) := by
  rw [frzV, if_neg hno]
  simp only [hg, mapO_frz h, Option.map_some]
theorem finish_new {H : Hp} {xs : List V} (h : V.oks H.length xs = true) : finish H (H ++ [.list xs]) (.ref H.length) = some (.lst xs, true, H) := by
  have hno : ¬ ((V.ref H.length).ok H.length = true) := by simp [V.ok]
  have hg : (H ++ [O.list xs])[H.length]? = some (.list xs) := by simp
  have hf : frzV (H ++ [O.list xs]) H.length 6 (.ref H.length) = some (.lst xs) := frz_ref hno hg h
  simp only [finish, hf, okAll_app, if_true, isNewRef, hg, h, Nat.le_refl, decide_true, Bool.and_self, List.take_left']

theorem turned_spec (k : Nat) {ps : List Stp} (h : GoodPlan ps) {H : Hp} {v : V} (hp : PlanAt H (ps.map Stp.v) v) : FF (k + 5) 6 [v] H = some (.lst ((ps.map Stp.turn).map Stp.v), true, H) := by
  have hn := need_spec k h hp
  have hl : (ps.map Stp.v).length ≤ lid := by have := h.hi; unfold lid; simp only [List.length_map]; omega
  rw [FF, F]
  simp only [P02, tab02, fn_turned, List.getElem?_cons_succ, List.getElem?_cons_zero, List.length_cons, List.length_nil, if_true, List.map_cons, List.map_nil, List.cons_append, List.nil_append, List.replicate]
  simp only [FF] at hn
  rw [evalSs_cons (ρ' := [some v, none]) (H' := H) (by simp [evalS, evalE, evalEs, hn])]
  have hc := comp_eval (c := ⟨F P02 0 (k + 4), 0⟩) (t := .slot 1) (it := .of (.var 0)) (ifs := []) (elt := .call 5 [(.var 1)]) (ρ := [some v, none]) (H := H) (H1 := H)
    (fun x => match x with | .tup [.str s, w] => if s = kindS true then .tup [.str (kindS false), w] else if s = kindS false then .tup [.str (kindS true), w] else .tup [.str s, w] | x => x)
    (show evalIt _ (.of (.var 0)) [some v, none] H = some (ps.map Stp.v, guardOf v, H) by simp [evalIt, evalE, hp.iter])
    (by
      intro x hx
      rw [List.mem_map] at hx
      obtain ⟨p, hpm, rfl⟩ := hx
      have hs := tstop_spec (k + 3) p H
      simp only [FF] at hs
      refine ⟨[some v, some p.v], by simp [bindT], rfl, ?_⟩
      simp only [evalE, evalEs, List.getElem?_cons_succ, List.getElem?_cons_zero, hs]
      cases p with
      | fin => rfl
      | go b ws =>
        cases b
        · have : (kindS false = kindS true) = False := by simp [kindS]; decide +kernel
          simp [Stp.v, Stp.turn, this]
        · simp [Stp.v, Stp.turn]) hl
  have hmap : (ps.map Stp.v).map (fun x => match x with | .tup [.str s, w] => if s = kindS true then .tup [.str (kindS false), w] else if s = kindS false then .tup [.str (kindS true), w] else .tup [.str s, w] | x => x) = (ps.map Stp.turn).map Stp.v := by
    rw [List.map_map, List.map_map]
    apply List.map_congr_left
    intro p _
    cases p with
    | fin => rfl
    | go b ws =>
      cases b
      · have : (kindS false = kindS true) = False := by simp [kindS]; decide +kernel
        simp [Stp.v, Stp.turn, this]
      · simp [Stp.v, Stp.turn]
  rw [hmap] at hc
  simp only [evalSs, evalS, evalE, hc]
  exact finish_new (oks_stps _ _)

theorem lturned_spec (k : Nat) (ps : List Stp) (hl : ps.length ≤ 12) (H : Hp) : FF (k + 1) 12 [.lst (ps.map Stp.v)] H = some (.lst ((ps.map Stp.turn).map Stp.v), true, H) := by
  rw [FF, F]
  simp only [P02, tab02, fn__law_turned, List.getElem?_cons_succ, List.getElem?_cons_zero, List.length_cons, List.length_nil, if_true, List.map_cons, List.map_nil, List.cons_append, List.nil_append, List.replicate]
  rw [evalSs_cons (ρ' := [some (.lst (ps.map Stp.v)), some (.ref H.length), none]) (H' := H ++ [.list []]) (by simp [evalS, evalE, evalEs, evalL, bindT])]
  obtain ⟨ρ', H', e, dn, r, h0, h1, rfl, o2, rfl⟩ := for_inv (c := ⟨F P02 0 k, 0⟩) (t := .slot 2) (it := .of (.var 0)) (ρ := [some (.lst (ps.map Stp.v)), some (.ref H.length), none]) (H := H ++ [.list []]) (xs := ps.map Stp.v) (G := []) (H1 := H ++ [.list []])
    (body := [(.iff (.cmp (.sub (.var 2) (.const (V.int (0)))) [.Eq] [(.const (V.str (Str.ofString "end")))]) [(.expr (.eff .append [(.var 1), (.tup [(.const (V.str (Str.ofString "end")))])]))] [(.expr (.eff .append [(.var 1), (.tup [(.sub (.frz (.disp [(.const (V.str (Str.ofString "send"))), (.const (V.str (Str.ofString "get")))])) (.prim .intOf [(.cmp (.sub (.var 2) (.const (V.int (0)))) [.Eq] [(.const (V.str (Str.ofString "send")))])])), (.sub (.var 2) (.const (V.int (1))))])]))])])
    (by simp [evalIt, evalE, iterV, guardOf])
    (fun xs ρ H' => ∃ dn r, xs = r.map Stp.v ∧ dn ++ r = ps ∧ H' = H ++ [.list ((dn.map Stp.turn).map Stp.v)] ∧ ∃ o2, ρ = [some (.lst (ps.map Stp.v)), some (.ref H.length), o2])
    (by
      rintro x xs ρ H' ⟨dn, r, e, hd, rfl, o2, rfl⟩
      cases r with
      | nil => cases e
      | cons p r =>
        simp only [List.map_cons, List.cons.injEq] at e
        obtain ⟨rfl, rfl⟩ := e
        have hdl : dn.length ≤ lid := by
          have := congrArg List.length hd
          simp only [List.length_append, List.length_cons] at this
          unfold lid; omega
        refine ⟨by simp, [some (.lst (ps.map Stp.v)), some (.ref H.length), some p.v], [some (.lst (ps.map Stp.v)), some (.ref H.length), some p.v], H ++ [.list (((dn ++ [p]).map Stp.turn).map Stp.v)], by simp [bindT], ?_, dn ++ [p], r, rfl, by simp [hd], rfl, _, rfl⟩
        cases p with
        | fin => simp [Stp.v, Stp.turn, evalSs, evalS, evalE, evalEs, evalCmp, cmpV, veq, truthyV, subV, idx, V.items, effV, appendV, hdl]
        | go b ws =>
          cases b
          · have hk : (kindS false == Str.ofString "end") = false := by decide +kernel
            have hk2 : (kindS false == Str.ofString "send") = false := by decide +kernel
            simp [Stp.v, Stp.turn, evalSs, evalS, evalE, evalEs, evalL, evalCmp, cmpV, veq, truthyV, subV, idx, V.items, effV, appendV, hdl, hk, hk2, frzO, primV, intOfV]
            simp [kindS]
          · have hk : (kindS true == Str.ofString "end") = false := by decide +kernel
            have hk2 : (kindS true == Str.ofString "send") = true := by decide +kernel
            simp [Stp.v, Stp.turn, evalSs, evalS, evalE, evalEs, evalL, evalCmp, cmpV, veq, truthyV, subV, idx, V.items, effV, appendV, hdl, hk, hk2, frzO, primV, intOfV]
            simp [kindS])
    (by simp)
    ⟨[], ps, rfl, rfl, rfl, none, rfl⟩
  rw [evalSs_cons e]
  have hr : r = [] := by simpa using h0.symm
  subst hr
  rw [List.append_nil] at h1
  subst h1
  simp only [evalSs, evalS, evalE, List.getElem?_cons_succ, List.getElem?_cons_zero]
  exact finish_new (oks_stps _ _)
end Mine
end

section
set_option autoImplicit false
namespace Mine
open PySem

theorem zip_self : ∀ xs : List V, zipV xs xs = xs.map fun x => .tup [x, x]
  | [] => rfl
  | x :: xs => by simp only [zipV, zip_self xs, List.map_cons]

/-- two values that the law's comparison calls the same -/
noncomputable def SameOk (k : Nat) (H : Hp) (a b : V) : Prop := FF k 13 [a, b] H = some (.bool true, false, H)

noncomputable def sameBody : List S := fn__law_same.body

theorem same_str (k : Nat) (H : Hp) (s : Str) : SameOk (k + 1) H (.str s) (.str s) := by
  unfold SameOk
  rw [FF, F]
  simp only [P02, tab02, fn__law_same, List.getElem?_cons_succ, List.getElem?_cons_zero, List.length_cons, List.length_nil, if_true, List.map_cons, List.map_nil, List.cons_append, List.nil_append, List.replicate]
  simp [evalSs, evalS, evalE, evalEs, evalOr, evalCmp, cmpV, veq, truthyV, primV, isinstV, anyO, isTyH, isTy, fin_bool]
theorem same_int (k : Nat) (H : Hp) (s : Int) : SameOk (k + 1) H (.int s) (.int s) := by
  unfold SameOk
  rw [FF, F]
  simp only [P02, tab02, fn__law_same, List.getElem?_cons_succ, List.getElem?_cons_zero, List.length_cons, List.length_nil, if_true, List.map_cons, List.map_nil, List.cons_append, List.nil_append, List.replicate]
  simp [evalSs, evalS, evalE, evalEs, evalOr, evalCmp, cmpV, veq, truthyV, primV, isinstV, anyO, isTyH, isTy, fin_bool]

theorem same_seq {k : Nat} {H : Hp} {xs : List V} {a b : V} {t : Bool} (ha : a.items H = some xs) (hb : b.items H = some xs) (hta : isTyH H .list a = some t) (htb : isTyH H .list b = some t) (hta' : isTyH H .tuple a = some (!t)) (htb' : isTyH H .tuple b = some (!t))
    (hla : lenV H [a] = some (.int xs.length)) (hlb : lenV H [b] = some (.int xs.length)) (hl : xs.length ≤ lid)
    (h : ∀ x ∈ xs, SameOk k H x x) : SameOk (k + 1) H a b := by
  unfold SameOk
  rw [FF, F]
  simp only [P02, tab02, fn__law_same, List.getElem?_cons_succ, List.getElem?_cons_zero, List.length_cons, List.length_nil, if_true, List.map_cons, List.map_nil, List.cons_append, List.nil_append, List.replicate]
  have hc := comp_eval (c := ⟨F P02 0 k, 0⟩) (t := .tup [2, 3]) (it := .zip (.var 0) (.var 1)) (ifs := []) (elt := .call 13 [(.var 2), (.var 3)]) (ρ := [some a, some b, none, none]) (H := H) (H1 := H) (fun _ => .bool true)
    (show evalIt _ (.zip (.var 0) (.var 1)) [some a, some b, none, none] H = some (xs.map fun x => .tup [x, x], guardOf a ++ guardOf b, H) by simp [evalIt, evalE, ha, hb, zip_self])
    (by
      intro x hx
      rw [List.mem_map] at hx
      obtain ⟨y, hy, rfl⟩ := hx
      have hs := h y hy
      unfold SameOk at hs
      simp only [FF] at hs
      exact ⟨[some a, some b, some y, some y], by simp [bindT, bindSlots], rfl, by simp [evalE, evalEs, hs]⟩) (by simpa using hl)
  have hany : ∀ v : V, isTyH H .list v = some t → isTyH H .tuple v = some (!t) → anyO (fun t => isTyH H t v) [.tuple, .list] = some true := by
    intro v h1 h2
    cases t <;> simp [anyO, h1, h2]
  have ec : evalE ⟨F P02 0 k, 0⟩ (.frz (.comp (.tup [2, 3]) (.zip (.var 0) (.var 1)) [] (.call 13 [(.var 2), (.var 3)]))) [some a, some b, none, none] H = some (.lst ((xs.map fun x => V.tup [x, x]).map fun _ => V.bool true), H) := by
    simp only [evalE, hc, frzO, Option.map_some]
  have eall : allV H [.lst ((xs.map fun x => V.tup [x, x]).map fun _ => V.bool true)] = some (.bool true) := by
    simp only [allV, V.items, boolsOf_true, Option.map_some, all_const]
  have e1 : anyO (fun t => isTyH H t a) [.list] = some t := by simp only [anyO, hta]; cases t <;> rfl
  have e2 : anyO (fun t => isTyH H t b) [.list] = some t := by simp only [anyO, htb]; cases t <;> rfl
  have ecall : evalE ⟨F P02 0 k, 0⟩ (.prim .all [(.frz (.comp (.tup [2, 3]) (.zip (.var 0) (.var 1)) [] (.call 13 [(.var 2), (.var 3)])))]) [some a, some b, none, none] H = some (.bool true, H) := by
    have : evalEs ⟨F P02 0 k, 0⟩ [(.frz (.comp (.tup [2, 3]) (.zip (.var 0) (.var 1)) [] (.call 13 [(.var 2), (.var 3)])))] [some a, some b, none, none] H = some ([.lst ((xs.map fun x => V.tup [x, x]).map fun _ => V.bool true)], H) := by
      rw [evalEs, ec]; rfl
    rw [evalE, this]
    simp only [primV, eall, Option.map_some]
  have est : evalS ⟨F P02 0 k, 0⟩ (.iff (.or [(.cmp (.prim (.isinst [.list]) [(.var 0)]) [.NotEq] [(.prim (.isinst [.list]) [(.var 1)])]), (.not (.prim (.isinst [.tuple, .list]) [(.var 0)]))]) [(.ret (.const (V.bool false)))] []) [some a, some b, none, none] H = some (.next, [some a, some b, none, none], H) := by
    simp [evalS, evalE, evalEs, evalOr, evalCmp, cmpV, veq, truthyV, primV, isinstV, e1, e2, hany a hta hta', evalSs]
  have esr : evalS ⟨F P02 0 k, 0⟩ (.ret (.and [(.cmp (.prim .len [(.var 0)]) [.Eq] [(.prim .len [(.var 1)])]), (.prim .all [(.frz (.comp (.tup [2, 3]) (.zip (.var 0) (.var 1)) [] (.call 13 [(.var 2), (.var 3)])))])])) [some a, some b, none, none] H = some (.ret (.bool true), [some a, some b, none, none], H) := by
    have e3 : evalE ⟨F P02 0 k, 0⟩ (.cmp (.prim .len [(.var 0)]) [.Eq] [(.prim .len [(.var 1)])]) [some a, some b, none, none] H = some (.bool true, H) := by
      simp [evalE, evalEs, evalCmp, cmpV, veq, primV, hla, hlb]
    rw [evalS, evalE, evalAnd, e3]
    · simp only [truthyV]
      rw [evalAnd, ecall]
    · simp
  have etop : evalE ⟨F P02 0 k, 0⟩ (.prim (.isinst [.tuple, .list]) [(.var 1)]) [some a, some b, none, none] H = some (.bool true, H) := by
    simp [evalE, evalEs, primV, isinstV, hany b htb htb']
  rw [evalSs, evalS, etop]
  simp only [truthyV]
  rw [evalSs_cons est, evalSs, esr]
  exact fin_bool _ _
end Mine
end

section
set_option autoImplicit false
namespace Mine
open PySem

theorem same_tup {k : Nat} {H : Hp} {xs : List V} (hl : xs.length ≤ lid) (h : ∀ x ∈ xs, SameOk k H x x) : SameOk (k + 1) H (.tup xs) (.tup xs) :=
  same_seq (t := false) rfl rfl rfl rfl rfl rfl (by simp [lenV, V.items, hl]) (by simp [lenV, V.items, hl]) hl h
theorem PlanAt.notTuple {H : Hp} {xs : List V} {v : V} (h : PlanAt H xs v) : isTyH H .tuple v = some false := by
  cases h with
  | lst => rfl
  | ref i e => simp only [isTyH, e]; rfl
theorem same_plan {k : Nat} {H : Hp} {xs : List V} {a b : V} (ha : PlanAt H xs a) (hb : PlanAt H xs b) (hl : xs.length ≤ lid) (h : ∀ x ∈ xs, SameOk k H x x) : SameOk (k + 1) H a b :=
  same_seq (t := true) ha.items hb.items ha.isList hb.isList ha.notTuple hb.notTuple (ha.len hl) (hb.len hl) hl h
theorem same_stop {k : Nat} {H : Hp} {many : Int} {p : Stp} (h : GoodStp many p) : SameOk (k + 4) H p.v p.v := by
  cases p with
  | fin => exact same_tup (by simp [lid]) (by simp; exact same_str _ _ _)
  | go b ws =>
    have h' : GoodWays many ws := h
    refine same_tup (by simp [lid]) ?_
    simp only [List.mem_cons, List.not_mem_nil, or_false, forall_eq_or_imp, forall_eq]
    refine ⟨same_str _ _ _, same_tup (by have := h'.hi; simp only [List.length_map]; unfold lid; omega) ?_⟩
    intro x hx
    rw [List.mem_map] at hx
    obtain ⟨y, _, rfl⟩ := hx
    refine same_tup (by simp [lid]) ?_
    simp only [List.mem_cons, List.not_mem_nil, or_false, forall_eq_or_imp, forall_eq]
    exact ⟨same_str _ _ _, same_int _ _ _⟩
theorem same_plans {k : Nat} {H : Hp} {ps : List Stp} (h : GoodPlan ps) {a b : V} (ha : PlanAt H (ps.map Stp.v) a) (hb : PlanAt H (ps.map Stp.v) b) : FF (k + 5) 13 [a, b] H = some (.bool true, false, H) := by
  refine same_plan ha hb (by have := h.hi; simp only [List.length_map]; unfold lid; omega) ?_
  intro x hx
  rw [List.mem_map] at hx
  obtain ⟨p, hp, rfl⟩ := hx
  exact same_stop (h.stops p hp)

theorem good_turn {ps : List Stp} (h : GoodPlan ps) : GoodPlan (ps.map Stp.turn) := by
  refine ⟨by simpa using h.lo, by simpa using h.hi, fun p hp => ?_⟩
  rw [List.mem_map] at hp
  obtain ⟨q, hq, rfl⟩ := hp
  have := h.stops q hq
  rw [List.length_map]
  cases q with
  | fin => trivial
  | go b ws => exact this
theorem turn_turn (ps : List Stp) : (ps.map Stp.turn).map Stp.turn = ps := by
  rw [List.map_map]
  conv => rhs; rw [← List.map_id ps]
  apply List.map_congr_left
  intro p _
  cases p with
  | fin => rfl
  | go b ws => simp [Stp.turn]
theorem good_set {ps : List Stp} (h : GoodPlan ps) : GoodPlan (ps.set 0 .fin) := by
  refine ⟨by simpa using h.lo, by simpa using h.hi, fun p hp => ?_⟩
  rw [List.length_set]
  rcases List.mem_or_eq_of_mem_set hp with q | q
  · exact h.stops p q
  · subst q; trivial

/-- a plan as data -/
noncomputable def wpy (x : Str × Int) : PyData := .tuple [.str x.1, .int x.2]
noncomputable def Stp.py : Stp → PyData
  | .fin => .tuple [.str (Str.ofString "end")]
  | .go b ws => .tuple [.str (kindS b), .tuple (ws.map wpy)]
theorem mapO_all {α β : Type} {f : α → Option β} {g : α → β} : ∀ {xs : List α}, (∀ x ∈ xs, f x = some (g x)) → mapO f xs = some (xs.map g)
  | [], _ => rfl
  | x :: xs, h => by simp only [mapO, h x List.mem_cons_self, mapO_all fun y hy => h y (List.mem_cons_of_mem _ hy), List.map_cons]
theorem mapO_map {α β γ : Type} {f : β → Option γ} {e : α → β} : ∀ {xs : List α}, mapO f (xs.map e) = mapO (fun x => f (e x)) xs
  | [] => rfl
  | x :: xs => by simp only [List.map_cons, mapO, mapO_map]
theorem toPy_wv (H : Hp) (k : Nat) (x : Str × Int) : toPy H (k + 1) (wv x) = some (wpy x) := by
  cases k <;> simp [wv, wpy, toPy, mapO]
theorem toPy_stp (H : Hp) (k : Nat) (p : Stp) : toPy H (k + 3) p.v = some p.py := by
  cases p with
  | fin => simp [Stp.v, Stp.py, toPy, mapO]
  | go b ws =>
    have : mapO (toPy H (k + 1)) (ws.map wv) = some (ws.map wpy) := by rw [mapO_map]; exact mapO_all fun x _ => toPy_wv H k x
    simp [Stp.v, Stp.py, toPy, mapO, this]
theorem toPy_plan (H : Hp) (k : Nat) (ps : List Stp) {v : V} (h : PlanAt H (ps.map Stp.v) v) : toPy H (k + 4) v = some (.list (ps.map Stp.py)) := by
  have : mapO (toPy H (k + 3)) (ps.map Stp.v) = some (ps.map Stp.py) := by rw [mapO_map]; exact mapO_all fun x _ => toPy_stp H k x
  cases h with
  | lst => simp only [toPy, this, Option.map_some]
  | ref i e => simp only [toPy, e, this, Option.map_some]

theorem strOk_good {s : Str} (h : GoodW s) : PyData.strOk s = true := by
  unfold PyData.strOk
  rw [Array.all_eq_true_iff_forall_mem]
  intro c hc
  have := h.2.2 c (by simpa using hc)
  simp; omega
theorem lay_ways {ws : List (Str × Int)} (h : ∀ x ∈ ws, GoodW x.1) : PyData.canLayAll0 (ws.map wpy) = true ∧ PyData.depthAll (ws.map wpy) ≤ 1 := by
  induction ws with
  | nil => exact ⟨rfl, by simp [PyData.depthAll]⟩
  | cons x ws ih =>
    obtain ⟨a, b⟩ := ih fun y hy => h y (List.mem_cons_of_mem _ hy)
    have hx := strOk_good (h x List.mem_cons_self)
    refine ⟨by simp [PyData.canLayAll0, PyData.canLay0, wpy, hx, a], ?_⟩
    simp [PyData.depthAll, PyData.depth, wpy]
    omega
theorem lay_stp {many : Int} {p : Stp} (h : GoodStp many p) : p.py.canLay0 = true ∧ p.py.depth ≤ 3 := by
  cases p with
  | fin => exact ⟨by decide +kernel, by simp [Stp.py, PyData.depth, PyData.depthAll]⟩
  | go b ws =>
    have h' : GoodWays many ws := h
    obtain ⟨a, c⟩ := lay_ways h'.words
    have hk : PyData.strOk (kindS b) = true := by cases b <;> decide +kernel
    refine ⟨by simp [Stp.py, PyData.canLay0, PyData.canLayAll0, a, hk], ?_⟩
    simp [Stp.py, PyData.depth, PyData.depthAll]
    omega
theorem lay_plan {many : Int} {ps : List Stp} (h : ∀ p ∈ ps, GoodStp many p) : PyData.canLayAll0 (ps.map Stp.py) = true ∧ PyData.depthAll (ps.map Stp.py) ≤ 3 := by
  induction ps with
  | nil => exact ⟨rfl, by simp [PyData.depthAll]⟩
  | cons x ws ih =>
    obtain ⟨a, b⟩ := ih fun y hy => h y (List.mem_cons_of_mem _ hy)
    obtain ⟨c, d⟩ := lay_stp (h x List.mem_cons_self)
    refine ⟨by simp [PyData.canLayAll0, a, c], ?_⟩
    simp [PyData.depthAll]
    omega
theorem veq_plan {H : Hp} {ps : List Stp} (h : GoodPlan ps) {i : Nat} (hi : H[i]? = some (.list (ps.map Stp.v))) : veq H (.ref i) (.lst (ps.map Stp.v)) = some true := by
  obtain ⟨a, b⟩ := lay_plan h.stops
  have hs : shp (.list (ps.map Stp.py)) = true := by
    unfold shp
    simp [PyData.canLay0, a, PyData.depth]
    omega
  have e1 := toPy_plan H 8 ps (.ref i hi)
  have e2 := toPy_plan H 8 ps .lst
  have hd : depthE = 8 + 4 := rfl
  unfold veq
  simp only [hd, e1, e2, hs, Bool.and_self, if_true]
  rw [SeqAt.eqv_refl _ (by simp [PyData.canLay0, a])]
end Mine
end

section
set_option autoImplicit false
namespace Mine
open PySem

theorem call_eval {c : Ctx} {f : Nat} {as : List E} {ρ : Loc} {H H1 : Hp} {vs : List V} {v : V} {b : Bool} {H2 : Hp} (h1 : evalEs c as ρ H = some (vs, H1)) (h2 : c.F f vs H1 = some (v, b, H2)) : evalE c (.call f as) ρ H = some (v, H2) := by
  simp only [evalE, h1, h2]

theorem set_map {ps : List Stp} : (ps.map Stp.v).set 0 (V.tup [.str (Str.ofString "end")]) = (ps.set 0 .fin).map Stp.v := by
  cases ps <;> rfl

theorem law_spec (k : Nat) {script : V} {c0 c1 : Int} {ws : List V} {ps : List Stp} {b7 b7' b9 b10 : Bool} (h7 : FF (k + 9) 7 [script, .int 1] [] = some (.int c1, b7, [])) (h7' : FF (k + 9) 7 [script, .int 0] [] = some (.int c0, b7', []))
    (h9 : FF (k + 9) 9 [.int c0] [] = some (.lst ws, b9, [])) (h10 : FF (k + 9) 10 [.int c1, .lst ws] [] = some (.lst (ps.map Stp.v), b10, [])) (hp : GoodPlan ps) :
    FF (k + 10) 14 [script] [] = some (.bool true, false, []) := by
  have hlen : (ps.map Stp.v).length ≤ lid := by have := hp.hi; simp only [List.length_map]; unfold lid; omega
  have hpt := good_turn hp
  have hps := good_set hp
  rw [FF, F]
  simp only [P02, tab02, fn_law, List.getElem?_cons_succ, List.getElem?_cons_zero, List.length_cons, List.length_nil, if_true, List.map_cons, List.map_nil, List.cons_append, List.nil_append, List.replicate]
  generalize hc : (⟨F P02 0 (k + 9), 0⟩ : Ctx) = c
  have cF : c.F = FF (k + 9) := by rw [← hc]
  have s1 : evalS c (.assign (.slot 1) (.call 10 [(.call 7 [(.var 0), (.const (V.int (1)))]), (.call 9 [(.call 7 [(.var 0), (.const (V.int (0)))])])])) [some script, none, none, none] [] = some (.next, [some script, some (.lst (ps.map Stp.v)), none, none], []) := by
    simp [evalS, evalE, evalEs, cF, h7, h7', h9, h10, bindT]
  rw [evalSs_cons s1]
  have s2 : evalS c (.assign (.slot 2) (.box (.listOf (.var 1)))) [some script, some (.lst (ps.map Stp.v)), none, none] [] = some (.next, [some script, some (.lst (ps.map Stp.v)), some (.ref 0), none], [.list (ps.map Stp.v)]) := by
    have hl' : ps.length ≤ lid := by simpa using hlen
    simp [evalS, evalE, evalL, V.items, hl', bindT]
  rw [evalSs_cons s2]
  have t1 := turned_spec (k + 4) hp (H := [.list (ps.map Stp.v)]) (v := .ref 0) (.ref 0 rfl)
  have s3 : evalS c (.assign (.slot 3) (.box (.call 6 [(.var 2)]))) [some script, some (.lst (ps.map Stp.v)), some (.ref 0), none] [.list (ps.map Stp.v)] = some (.next, [some script, some (.lst (ps.map Stp.v)), some (.ref 0), some (.ref 1)], [.list (ps.map Stp.v), .list ((ps.map Stp.turn).map Stp.v)]) := by
    have t1' : FF (k + 9) 6 [.ref 0] [.list (ps.map Stp.v)] = some (.lst ((ps.map Stp.turn).map Stp.v), true, [.list (ps.map Stp.v)]) := t1
    simp only [evalS, evalE, evalL, evalEs, List.getElem?_cons_succ, List.getElem?_cons_zero, cF, t1', List.length_cons, List.length_nil, bindT]
    rfl
  rw [evalSs_cons s3]
  generalize hH : ([.list (ps.map Stp.v), .list ((ps.map Stp.turn).map Stp.v)] : Hp) = H2
  have a0 : PlanAt H2 (ps.map Stp.v) (.ref 0) := .ref 0 (by rw [← hH]; rfl)
  have a1 : PlanAt H2 ((ps.map Stp.turn).map Stp.v) (.ref 1) := .ref 1 (by rw [← hH]; rfl)
  have t2 := lturned_spec (k + 8) ps hp.hi H2
  have t3 := same_plans (k := k + 4) hpt a1 (.lst (H := H2))
  have t4 := turned_spec (k + 4) hpt a1
  rw [turn_turn] at t4
  have t5 := same_plans (k := k + 4) hp (.lst (H := H2)) (.lst (H := H2))
  have t6 := veq_plan hp (H := H2) (i := 0) (by rw [← hH]; rfl)
  have s4 : evalS c (.iff (.or [(.not (.call 13 [(.var 3), (.call 12 [(.var 1)])])), (.not (.call 13 [(.call 6 [(.var 3)]), (.var 1)])), (.cmp (.var 2) [.NotEq] [(.var 1)])]) [(.ret (.const (V.bool false)))] []) [some script, some (.lst (ps.map Stp.v)), some (.ref 0), some (.ref 1)] H2 = some (.next, [some script, some (.lst (ps.map Stp.v)), some (.ref 0), some (.ref 1)], H2) := by
    simp only [evalS, evalE, evalEs, evalOr, evalCmp, List.getElem?_cons_succ, List.getElem?_cons_zero, cF, t2, t3, t4, t5, truthyV, cmpV, t6, Option.map_some, Bool.not_true, evalSs]
  rw [evalSs_cons s4]
  have s5 : evalS c (.expr (.eff .clear [(.var 3)])) [some script, some (.lst (ps.map Stp.v)), some (.ref 0), some (.ref 1)] H2 = some (.next, [some script, some (.lst (ps.map Stp.v)), some (.ref 0), some (.ref 1)], [.list (ps.map Stp.v), .list []]) := by
    have hl' : ps.length ≤ lid := by simpa using hlen
    rw [← hH]
    simp [evalS, evalE, evalEs, effV, clearV, hl']
  rw [evalSs_cons s5]
  have s6 : evalS c (.setItem (.tup [(.const (V.str (Str.ofString "end")))]) (.var 2) (.const (V.int (0)))) [some script, some (.lst (ps.map Stp.v)), some (.ref 0), some (.ref 1)] [.list (ps.map Stp.v), .list []] = some (.next, [some script, some (.lst (ps.map Stp.v)), some (.ref 0), some (.ref 1)], [.list ((ps.set 0 .fin).map Stp.v), .list []]) := by
    have hl' : 0 < ps.length := hp.lo
    simp [evalS, evalE, evalEs, effV, setItemV, hl', set_map]
  rw [evalSs_cons s6]
  generalize hH3 : ([.list ((ps.set 0 .fin).map Stp.v), .list []] : Hp) = H3
  have u1 := turned_spec (k + 4) hp (.lst (H := H3))
  have u2 := lturned_spec (k + 8) ps hp.hi H3
  have u3 := same_plans (k := k + 4) hpt (.lst (H := H3)) (.lst (H := H3))
  have u4 := turned_spec (k + 4) hps (H := H3) (v := .ref 0) (.ref 0 (by rw [← hH3]; rfl))
  have hfin : GoodPlan [.fin] := ⟨by simp, by simp, by simp [GoodStp]⟩
  have u5 := same_plans (k := k + 4) hfin (.lst (H := H3)) (.lst (H := H3))
  have htake : List.take 1 (((ps.set 0 .fin).map Stp.turn).map Stp.v) = [Stp.fin].map Stp.v := by
    have := hp.lo
    cases ps with
    | nil => simp at this
    | cons p ps => rfl
  have hl3 : (((ps.set 0 Stp.fin).map Stp.turn).map Stp.v).length ≤ lid := by simpa using hlen
  have s7 : evalS c (.ret (.and [(.call 13 [(.call 6 [(.frz (.listOf (.var 1)))]), (.call 12 [(.var 1)])]), (.call 13 [(.frz (.slice (.call 6 [(.var 2)]) none (some (.const (V.int (1)))))), (.frz (.disp [(.tup [(.const (V.str (Str.ofString "end")))])]))])])) [some script, some (.lst (ps.map Stp.v)), some (.ref 0), some (.ref 1)] H3 = some (.ret (.bool true), [some script, some (.lst (ps.map Stp.v)), some (.ref 0), some (.ref 1)], H3) := by
    have e1 : sliceV H3 (.lst (((ps.set 0 Stp.fin).map Stp.turn).map Stp.v)) .none (.int 1) = some ([Stp.fin].map Stp.v) := by
      rw [← htake]
      simp only [sliceV, V.items, hl3, if_true]
      rfl
    have e2 : (V.lst [V.tup [V.str (Str.ofString "end")]]) = V.lst ([Stp.fin].map Stp.v) := rfl
    simp only [evalS, evalE, evalEs, evalL, evalO, evalAnd, List.getElem?_cons_succ, List.getElem?_cons_zero, cF, V.items, Option.bind_some, hlen, if_true, frzO, Option.map_some, u1, u2, u3, truthyV, u4, e1, e2, u5]
  rw [evalSs, s7]
  have hok : okAll 0 [] H3 = true := rfl
  rfl
end Mine
end

section
set_option autoImplicit false
namespace Mine
open PySem

theorem bits_le {x : Int} {n : Nat} : intBits x ≤ n ↔ x.natAbs < 2 ^ n := by
  unfold intBits
  by_cases h : x = 0
  · subst h; simp [Nat.two_pow_pos]
  · have hb : (x == 0) = false := by simpa using h
    rw [hb]
    simp only [Bool.false_eq_true, if_false]
    rw [Nat.succ_le_iff, Nat.log2_lt (by omega)]
theorem bits_lt (x : Int) : x.natAbs < 2 ^ intBits x := bits_le.mp (Nat.le_refl _)
theorem bits_add (x y : Int) : intBits (x + y) ≤ max (intBits x) (intBits y) + 1 := by
  rw [bits_le]
  have h1 := bits_lt x
  have h2 := bits_lt y
  have h3 : 2 ^ intBits x ≤ 2 ^ max (intBits x) (intBits y) := Nat.pow_le_pow_right (by decide) (Nat.le_max_left _ _)
  have h4 : 2 ^ intBits y ≤ 2 ^ max (intBits x) (intBits y) := Nat.pow_le_pow_right (by decide) (Nat.le_max_right _ _)
  rw [Nat.pow_succ]
  omega
theorem bits_mul (x y : Int) : intBits (x * y) ≤ intBits x + intBits y := by
  rw [bits_le, Int.natAbs_mul, Nat.pow_add]
  exact Nat.mul_lt_mul'' (bits_lt x) (bits_lt y)
theorem bits_cube (x : Int) : intBits (x ^ 3) ≤ intBits x * 3 := by
  have e : x ^ 3 = x * x * x := by rw [Int.pow_succ, Int.pow_succ, Int.pow_succ, Int.pow_zero, Int.one_mul]
  rw [e]
  have h1 := bits_mul (x * x) x
  have h2 := bits_mul x x
  omega
theorem bits_mono {x y : Int} (h : x.natAbs ≤ y.natAbs) : intBits x ≤ intBits y := bits_le.mpr (Nat.lt_of_le_of_lt h (bits_lt y))

theorem cell_spec (k : Nat) (is : List Int) (hl : is.length ≤ 1048576) (j : Nat) (hj : j < 5) : FF (k + 1) 7 [.lst (is.map V.int), .int j] [] = some (.int (is.getD j 0), false, []) := by
  have hl' : is.length ≤ lid := by unfold lid; omega
  rw [FF, F]
  simp only [P02, tab02, fn__law_cell_at, List.getElem?_cons_succ, List.getElem?_cons_zero, List.length_cons, List.length_nil, if_true, List.map_cons, List.map_nil, List.cons_append, List.nil_append, List.replicate]
  by_cases h : j < is.length
  · have h1 : ((j : Int) < is.length) := by omega
    have hi : idx (j : Int) is.length = some j := by
      exact (if_pos ⟨Int.natCast_nonneg j, h1, by omega⟩).trans (by rw [Int.toNat_natCast])
    simp [evalSs, evalS, evalE, evalEs, evalCmp, cmpV, primV, lenV, V.items, hl', h1, truthyV, subV, hi, h, fin_int]
  · have h1 : ¬ ((j : Int) < is.length) := by omega
    have h2 : is[j]? = none := List.getElem?_eq_none (by omega)
    simp [evalSs, evalS, evalE, evalEs, evalCmp, cmpV, primV, lenV, V.items, hl', h1, truthyV, h2, fin_int]

noncomputable def mix (c j : Int) : Int := ((c + 7919 * j + 11) ^ 3 * 69621) % 2147483647
theorem mix_range (c j : Int) : 0 ≤ mix c j ∧ mix c j < 2147483647 := ⟨Int.emod_nonneg _ (by decide), Int.emod_lt_of_pos _ (by decide)⟩
theorem mixed_spec (k : Nat) {c j : Int} (hc : intBits c ≤ 1048580) (h0 : 0 ≤ j) (h1 : j < 1000) (H : Hp) : FF (k + 1) 8 [.int c, .int j] H = some (.int (mix c j), false, H) := by
  have b1 : intBits 7919 ≤ 13 := bits_le.mpr (by decide)
  have b2 : intBits j ≤ 10 := bits_le.mpr (by omega)
  have b3 := bits_mul 7919 j
  have b4 := bits_add c (7919 * j)
  have b5 : intBits 11 ≤ 4 := bits_le.mpr (by decide)
  have b6 := bits_add (c + 7919 * j) 11
  have b7 := bits_cube (c + 7919 * j + 11)
  have b8 : intBits 69621 ≤ 17 := bits_le.mpr (by decide)
  have m1 : intBits 7919 + intBits j ≤ 134217728 := by omega
  have m2 : intBits (c + 7919 * j + 11) * 3 ≤ 134217728 := by omega
  have m3 : intBits ((c + 7919 * j + 11) ^ 3) + intBits 69621 ≤ 134217728 := by omega
  have hm : ((c + 7919 * j + 11) ^ 3 * 69621).fmod 2147483647 = mix c j := Int.fmod_eq_emod_of_nonneg _ (by decide)
  rw [FF, F]
  simp only [P02, tab02, fn__law_mixed, List.getElem?_cons_succ, List.getElem?_cons_zero, List.length_cons, List.length_nil, if_true, List.map_cons, List.map_nil, List.cons_append, List.nil_append, List.replicate]
  have e1 : ibin .Mult 7919 j = some (7919 * j) := by simp only [ibin]; rw [if_pos m1]
  have e2 : ibin .Pow (c + 7919 * j + 11) 3 = some ((c + 7919 * j + 11) ^ 3) := by simp only [ibin]; rw [if_pos ⟨by simp, m2⟩]
  have e3 : ibin .Mult ((c + 7919 * j + 11) ^ 3) 69621 = some ((c + 7919 * j + 11) ^ 3 * 69621) := by simp only [ibin]; rw [if_pos m3]
  have e4 : ibin .Mod ((c + 7919 * j + 11) ^ 3 * 69621) 2147483647 = some (mix c j) := by simp only [ibin]; rw [if_pos (by decide), hm]
  have e5 : ∀ a b : Int, ibin .Add a b = some (a + b) := fun a b => rfl
  simp only [evalSs, evalS, evalE, List.getElem?_cons_succ, List.getElem?_cons_zero, binV, e1, e2, e3, e4, e5, Option.map_some, fin_int]
end Mine
end

section
set_option autoImplicit false
namespace Mine
open PySem

theorem comp_range {c : Ctx} {ρ : Loc} {H : Hp} {r e : E} {n : Int} {sl : Nat} (hr : evalE c r ρ H = some (.int n, H)) (h0 : 0 ≤ n) (h1 : n ≤ 100) (f : Nat → V)
    (h : ∀ t : Nat, (t : Int) < n → ∃ ρ1, bindT (.slot sl) (.int t) ρ = some ρ1 ∧ evalE c e ρ1 H = some (f t, H)) : evalL c (.comp (.slot sl) (.range r) [] e) ρ H = some (.list ((List.range n.toNat).map f), H) := by
  have hc := comp_eval (c := c) (t := .slot sl) (it := .range r) (ifs := []) (elt := e) (ρ := ρ) (H := H) (H1 := H) (fun x => match x with | .int t => f t.toNat | _ => .none)
    (show evalIt c (.range r) ρ H = some (rangeV n, [], H) by simp only [evalIt, hr]; rw [if_pos (by constructor <;> omega)])
    (by
      intro x hx
      unfold rangeV at hx
      rw [List.mem_map] at hx
      obtain ⟨t, ht, rfl⟩ := hx
      rw [List.mem_range] at ht
      obtain ⟨ρ1, a, b⟩ := h t (by omega)
      exact ⟨ρ1, a, rfl, by simpa using b⟩) (by simp [rangeV, lid]; omega)
  rw [hc]
  simp [rangeV]

noncomputable abbrev LL : Str := Str.ofString "abcdefghijklmnopqrstuvwxyz"
noncomputable def ch (c : Nat) : V := .str ⟨#[c]⟩
noncomputable def lc (i : Int) : Nat := 97 + i.toNat
theorem letter_at (H : Hp) {i : Int} (h0 : 0 ≤ i) (h1 : i < 26) : subV H (.str LL) (.int i) = some (ch (lc i)) := by
  have key : ∀ d : Fin 26, (fitsSsize (d.val : Int) = true ∧ (Txt.charAt LL (d.val : Int)).isSome = true) ∧ Txt.item LL (d.val : Int) = ⟨#[97 + d.val]⟩ := by decide +kernel
  have := key ⟨i.toNat, by omega⟩
  have e : ((i.toNat : Nat) : Int) = i := by omega
  simp only [e] at this
  simp only [subV]
  rw [if_pos this.1, this.2]
  rfl
theorem lc_letter {i : Int} (h0 : 0 ≤ i) (h1 : i < 26) : 97 ≤ lc i ∧ lc i ≤ 122 := by unfold lc; omega

noncomputable def chw (cs : List Nat) : Str := Str.join (Str.ofString "") (cs.map fun c => ⟨#[c]⟩)
theorem empty_cps : (Str.ofString "").cps = #[] := by decide +kernel
theorem join_cps : ∀ cs : List Nat, (chw cs).cps.toList = cs
  | [] => rfl
  | [c] => rfl
  | c :: d :: r => by
    have ih := join_cps (d :: r)
    have e : (chw (c :: d :: r)).cps = ((#[c] : Array Nat) ++ (Str.ofString "").cps) ++ (chw (d :: r)).cps := rfl
    rw [e, empty_cps]
    simp [ih]
theorem chw_len (cs : List Nat) : (chw cs).length = cs.length := by
  have := congrArg List.length (join_cps cs)
  simpa [Str.length] using this
theorem good_chw {cs : List Nat} (h1 : 1 ≤ cs.length) (h2 : cs.length ≤ 8) (h3 : ∀ c ∈ cs, 97 ≤ c ∧ c ≤ 122) : GoodW (chw cs) := by
  refine ⟨by rw [chw_len]; exact h1, by rw [chw_len]; exact h2, ?_⟩
  rw [join_cps]; exact h3
theorem strsOf_ch : ∀ cs : List Nat, strsOf (cs.map ch) = some (cs.map fun c => ⟨#[c]⟩)
  | [] => rfl
  | c :: cs => by simp only [List.map_cons, ch, strsOf]; rw [strsOf_ch cs]; rfl
theorem sum_ch : ∀ cs : List Nat, (((cs.map fun c => (⟨#[c]⟩ : Str))).map (·.length)).sum = cs.length
  | [] => rfl
  | c :: cs => by
    simp only [List.map_cons, List.sum_cons, List.length_cons, sum_ch cs]
    show 1 + cs.length = cs.length + 1
    omega
theorem join_at {H : Hp} {v : V} {cs : List Nat} (hl : cs.length ≤ lid) (h : PlanAt H (cs.map ch) v) : joinV H [v] = some (.str (chw cs)) := by
  have hi := h.items
  have : ∀ v : V, (¬ ∃ ts, v = .tup ts) → v.items H = some (cs.map ch) → joinV H [v] = some (.str (chw cs)) := by
    intro v nt hi
    unfold joinV
    split
    · rename_i heq; cases heq; exact (nt ⟨_, rfl⟩).elim
    · rename_i u heq; cases heq
      simp only [hi, strsOf_ch, sum_ch, hl, if_true]
      rfl
    · rename_i h1 h2; exact (h2 v rfl).elim
  cases h with
  | lst => exact this _ (by simp) hi
  | ref i e => exact this _ (by simp) hi

theorem bin_fdiv (x : Int) {d : Int} (h0 : 0 < d) (h1 : d < 1073741824) : ibin .FloorDiv x d = some (x / d) := by
  simp only [ibin]; rw [if_pos ⟨h0, h1⟩, Int.fdiv_eq_ediv_of_nonneg _ (Int.le_of_lt h0)]
theorem bin_mod (x : Int) {d : Int} (h0 : 0 < d) : ibin .Mod x d = some (x % d) := by
  simp only [ibin]; rw [if_pos h0, Int.fmod_eq_emod_of_nonneg _ (Int.le_of_lt h0)]
theorem bin_add (x y : Int) : ibin .Add x y = some (x + y) := rfl
theorem bin_sub (x y : Int) : ibin .Sub x y = some (x - y) := rfl
theorem bin_mul {x y : Int} (h : intBits x + intBits y ≤ 134217728) : ibin .Mult x y = some (x * y) := by
  simp only [ibin]; rw [if_pos h]
theorem small_bits {x : Int} (h0 : 0 ≤ x) (h1 : x < 100000) : intBits x ≤ 17 := bits_le.mpr (by omega)
theorem bin_mul_small {x y : Int} (h0 : 0 ≤ x) (h1 : x < 100000) (h2 : 0 ≤ y) (h3 : y < 100000) : ibin .Mult x y = some (x * y) := by
  have := small_bits h0 h1
  have := small_bits h2 h3
  exact bin_mul (by omega)
end Mine
end

section
set_option autoImplicit false
namespace Mine
open PySem

noncomputable def wordsBody : List S := [(.assign (.slot 6) (.box (.comp (.slot 5) (.range (.var 2)) [] (.sub (.var 1) (.bin .Mod (.bin .Add (.bin .FloorDiv (.var 0) (.const (V.int (24)))) (.bin .Mult (.const (V.int (5))) (.var 5))) (.const (V.int (26)))))))), (.assign (.slot 7) (.bin .Mod (.bin .FloorDiv (.var 0) (.const (V.int (5)))) (.var 2))), (.setItem (.sub (.var 1) (.bin .Mod (.bin .Add (.bin .FloorDiv (.var 0) (.const (V.int (7)))) (.bin .Mult (.const (V.int (4))) (.var 4))) (.const (V.int (26))))) (.var 6) (.var 7)), (.assign (.slot 8) (.prim .join [(.var 6)])), (.iff (.cmp (.bin .Mod (.var 0) (.const (V.int (3)))) [.Eq] [(.const (V.int (1)))]) [(.assign (.slot 8) (.prim .join [(.frz (.comp (.slot 5) (.range (.bin .Add (.bin .Add (.var 4) (.const (V.int (1)))) (.bin .Mod (.bin .FloorDiv (.var 0) (.const (V.int (5)))) (.const (V.int (3)))))) [] (.sub (.var 1) (.bin .Mod (.bin .Add (.bin .FloorDiv (.var 0) (.const (V.int (24)))) (.bin .Mult (.const (V.int (3))) (.var 5))) (.const (V.int (26)))))))]))] []), (.iff (.cmp (.bin .Mod (.var 0) (.const (V.int (3)))) [.Eq] [(.const (V.int (2)))]) [(.assign (.slot 8) (.prim .join [(.frz (.comp (.slot 5) (.range (.bin .Add (.const (V.int (1))) (.bin .Mod (.bin .Add (.bin .FloorDiv (.var 0) (.const (V.int (3)))) (.var 4)) (.const (V.int (8)))))) [] (.sub (.var 1) (.bin .Mod (.call 8 [(.var 0), (.bin .Add (.bin .Mult (.const (V.int (9))) (.var 4)) (.var 5))]) (.const (V.int (26)))))))]))] []), (.expr (.eff .append [(.var 3), (.var 8)]))]

theorem map_range_ch (n : Nat) (f : Nat → Nat) : (List.range n).map (fun t => ch (f t)) = ((List.range n).map f).map ch := by rw [List.map_map]; rfl

theorem words_turn (k : Nat) {c size : Int} (hc : intBits c ≤ 1048580) (h1 : 1 ≤ size) (h2 : size ≤ 8) {ws : List Str} {rows : Hp} {j : Nat} (hj : j < 6) (hwl : ws.length ≤ 6) {o5 o6 o7 o8 : Option V} :
    ∃ w o5' o6' o7' o8' rows', GoodW w ∧ evalSs ⟨FF (k + 1), 0⟩ wordsBody [some (.int c), some (.str LL), some (.int size), some (.ref 0), some (.int j), o5, o6, o7, o8] (.list (ws.map V.str) :: rows) =
      some (.next, [some (.int c), some (.str LL), some (.int size), some (.ref 0), some (.int j), o5', o6', o7', o8'], .list ((ws ++ [w]).map V.str) :: rows') := by
  generalize hH : (O.list (ws.map V.str) :: rows : Hp) = H
  -- the row
  have e1 : evalL ⟨FF (k + 1), 0⟩ (.comp (.slot 5) (.range (.var 2)) [] (.sub (.var 1) (.bin .Mod (.bin .Add (.bin .FloorDiv (.var 0) (.const (V.int (24)))) (.bin .Mult (.const (V.int (5))) (.var 5))) (.const (V.int (26)))))) [some (.int c), some (.str LL), some (.int size), some (.ref 0), some (.int j), o5, o6, o7, o8] H
      = some (.list (((List.range size.toNat).map fun (t : Nat) => lc ((c / 24 + 5 * (t : Int)) % 26)).map ch), H) := by
    rw [← map_range_ch]
    refine comp_range (n := size) (by simp [evalE]) (by omega) (by omega) (fun (t : Nat) => ch (lc ((c / 24 + 5 * (t : Int)) % 26))) fun t ht => ⟨[some (.int c), some (.str LL), some (.int size), some (.ref 0), some (.int j), some (.int t), o6, o7, o8], by simp [bindT], ?_⟩
    have a1 := bin_fdiv c (d := 24) (by decide) (by decide)
    have a2 := bin_mul_small (x := 5) (y := (t : Int)) (by decide) (by decide) (by omega) (by omega)
    have a3 := bin_mod (c / 24 + 5 * (t : Int)) (d := 26) (by decide)
    have a4 := letter_at H (i := (c / 24 + 5 * (t : Int)) % 26) (Int.emod_nonneg _ (by decide)) (Int.emod_lt_of_pos _ (by decide))
    simp only [evalE, List.getElem?_cons_succ, List.getElem?_cons_zero, binV, a1, a2, a3, bin_add, a4, Option.map_some]
  generalize hcs : (List.range size.toNat).map (fun (t : Nat) => lc ((c / 24 + 5 * (t : Int)) % 26)) = cs at e1
  have hcl : cs.length = size.toNat := by rw [← hcs]; simp
  have hcg : ∀ x ∈ cs, 97 ≤ x ∧ x ≤ 122 := by
    intro x hx
    rw [← hcs, List.mem_map] at hx
    obtain ⟨t, _, rfl⟩ := hx
    exact lc_letter (Int.emod_nonneg _ (by decide)) (Int.emod_lt_of_pos _ (by decide))
  have s1 : evalS ⟨FF (k + 1), 0⟩ (.assign (.slot 6) (.box (.comp (.slot 5) (.range (.var 2)) [] (.sub (.var 1) (.bin .Mod (.bin .Add (.bin .FloorDiv (.var 0) (.const (V.int (24)))) (.bin .Mult (.const (V.int (5))) (.var 5))) (.const (V.int (26)))))))) [some (.int c), some (.str LL), some (.int size), some (.ref 0), some (.int j), o5, o6, o7, o8] H
      = some (.next, [some (.int c), some (.str LL), some (.int size), some (.ref 0), some (.int j), o5, some (.ref H.length), o7, o8], H ++ [.list (cs.map ch)]) := by
    simp only [evalS, evalE, e1, bindT, List.length_cons, List.length_nil, Option.map_some]
    rfl
  unfold wordsBody
  rw [evalSs_cons s1]
  have p0 := Int.emod_nonneg (c / 5) (b := size) (by omega)
  have p1 := Int.emod_lt_of_pos (c / 5) (b := size) (by omega)
  have s2 : evalS ⟨FF (k + 1), 0⟩ (.assign (.slot 7) (.bin .Mod (.bin .FloorDiv (.var 0) (.const (V.int (5)))) (.var 2))) [some (.int c), some (.str LL), some (.int size), some (.ref 0), some (.int j), o5, some (.ref H.length), o7, o8] (H ++ [.list (cs.map ch)])
      = some (.next, [some (.int c), some (.str LL), some (.int size), some (.ref 0), some (.int j), o5, some (.ref H.length), some (.int ((c / 5) % size)), o8], H ++ [.list (cs.map ch)]) := by
    have a1 := bin_fdiv c (d := 5) (by decide) (by decide)
    have a2 := bin_mod (c / 5) (d := size) (by omega)
    simp [evalS, evalE, binV, a1, a2, bindT]
  rw [evalSs_cons s2]
  have s3 : evalS ⟨FF (k + 1), 0⟩ (.setItem (.sub (.var 1) (.bin .Mod (.bin .Add (.bin .FloorDiv (.var 0) (.const (V.int (7)))) (.bin .Mult (.const (V.int (4))) (.var 4))) (.const (V.int (26))))) (.var 6) (.var 7)) [some (.int c), some (.str LL), some (.int size), some (.ref 0), some (.int j), o5, some (.ref H.length), some (.int ((c / 5) % size)), o8] (H ++ [.list (cs.map ch)])
      = some (.next, [some (.int c), some (.str LL), some (.int size), some (.ref 0), some (.int j), o5, some (.ref H.length), some (.int ((c / 5) % size)), o8], H ++ [.list ((cs.set ((c / 5) % size).toNat (lc ((c / 7 + 4 * (j : Int)) % 26))).map ch)]) := by
    have a1 := bin_fdiv c (d := 7) (by decide) (by decide)
    have a2 := bin_mul_small (x := 4) (y := (j : Int)) (by decide) (by decide) (by omega) (by omega)
    have a3 := bin_mod (c / 7 + 4 * (j : Int)) (d := 26) (by decide)
    have a4 := letter_at (H ++ [.list (cs.map ch)]) (i := (c / 7 + 4 * (j : Int)) % 26) (Int.emod_nonneg _ (by decide)) (Int.emod_lt_of_pos _ (by decide))
    have a5 : (H ++ [O.list (cs.map ch)])[H.length]? = some (.list (cs.map ch)) := by simp
    have a6 : 0 ≤ (c / 5) % size ∧ (c / 5) % size < ((cs.map ch).length : Int) ∧ (c / 5) % size < 9223372036854775808 := by
      rw [List.length_map, hcl]; omega
    simp only [evalS, evalE, List.getElem?_cons_succ, List.getElem?_cons_zero, binV, a1, a2, a3, bin_add, a4, Option.map_some, effV, setItemV, a5]
    rw [if_pos a6]
    simp [List.map_set]
  rw [evalSs_cons s3]
  generalize hcs' : cs.set ((c / 5) % size).toNat (lc ((c / 7 + 4 * (j : Int)) % 26)) = cs'
  have hcl' : cs'.length = size.toNat := by rw [← hcs', List.length_set]; exact hcl
  have hcg' : ∀ x ∈ cs', 97 ≤ x ∧ x ≤ 122 := by
    intro x hx
    rw [← hcs'] at hx
    rcases List.mem_or_eq_of_mem_set hx with q | q
    · exact hcg x q
    · subst q; exact lc_letter (Int.emod_nonneg _ (by decide)) (Int.emod_lt_of_pos _ (by decide))
  generalize hH2 : H ++ [O.list (cs'.map ch)] = H2
  have hj1 := join_at (H := H2) (v := .ref H.length) (cs := cs') (by unfold lid; omega) (.ref H.length (by rw [← hH2]; simp))
  have s4 : evalS ⟨FF (k + 1), 0⟩ (.assign (.slot 8) (.prim .join [(.var 6)])) [some (.int c), some (.str LL), some (.int size), some (.ref 0), some (.int j), o5, some (.ref H.length), some (.int ((c / 5) % size)), o8] H2
      = some (.next, [some (.int c), some (.str LL), some (.int size), some (.ref 0), some (.int j), o5, some (.ref H.length), some (.int ((c / 5) % size)), some (.str (chw cs'))], H2) := by
    simp [evalS, evalE, evalEs, primV, hj1, bindT]
  rw [evalSs_cons s4]
  have g0 : GoodW (chw cs') := good_chw (by omega) (by omega) hcg'
  have m3 := bin_mod c (d := 3) (by decide)
  have hH20 : H2[0]? = some (.list (ws.map V.str)) := by rw [← hH2, ← hH]; rfl
  have hsome : ∃ r, H2 = .list (ws.map V.str) :: r := by rw [← hH2, ← hH]; exact ⟨_, rfl⟩
  obtain ⟨r, hr⟩ := hsome
  have last : ∀ (w : Str) (o5 o6 o7 : Option V), evalSs ⟨FF (k + 1), 0⟩ [(.expr (.eff .append [(.var 3), (.var 8)]))] [some (.int c), some (.str LL), some (.int size), some (.ref 0), some (.int j), o5, o6, o7, some (.str w)] H2 = some (.next, [some (.int c), some (.str LL), some (.int size), some (.ref 0), some (.int j), o5, o6, o7, some (.str w)], .list ((ws ++ [w]).map V.str) :: r) := by
    intro w o5 o6 o7
    have hl : ws.length ≤ lid := by unfold lid; omega
    rw [hr]
    simp [evalSs, evalS, evalE, evalEs, effV, appendV, hl]
  -- the first case
  have s5 : ∃ w, GoodW w ∧ evalS ⟨FF (k + 1), 0⟩ (.iff (.cmp (.bin .Mod (.var 0) (.const (V.int (3)))) [.Eq] [(.const (V.int (1)))]) [(.assign (.slot 8) (.prim .join [(.frz (.comp (.slot 5) (.range (.bin .Add (.bin .Add (.var 4) (.const (V.int (1)))) (.bin .Mod (.bin .FloorDiv (.var 0) (.const (V.int (5)))) (.const (V.int (3)))))) [] (.sub (.var 1) (.bin .Mod (.bin .Add (.bin .FloorDiv (.var 0) (.const (V.int (24)))) (.bin .Mult (.const (V.int (3))) (.var 5))) (.const (V.int (26)))))))]))] []) [some (.int c), some (.str LL), some (.int size), some (.ref 0), some (.int j), o5, some (.ref H.length), some (.int ((c / 5) % size)), some (.str (chw cs'))] H2
      = some (.next, [some (.int c), some (.str LL), some (.int size), some (.ref 0), some (.int j), o5, some (.ref H.length), some (.int ((c / 5) % size)), some (.str w)], H2) := by
    by_cases h : c % 3 = 1
    · have hb : (c % 3 == 1) = true := by simpa using h
      have n0 := Int.emod_nonneg (c / 5) (b := 3) (by decide)
      have n1 := Int.emod_lt_of_pos (c / 5) (b := 3) (by decide)
      have e2 : evalL ⟨FF (k + 1), 0⟩ (.comp (.slot 5) (.range (.bin .Add (.bin .Add (.var 4) (.const (V.int (1)))) (.bin .Mod (.bin .FloorDiv (.var 0) (.const (V.int (5)))) (.const (V.int (3)))))) [] (.sub (.var 1) (.bin .Mod (.bin .Add (.bin .FloorDiv (.var 0) (.const (V.int (24)))) (.bin .Mult (.const (V.int (3))) (.var 5))) (.const (V.int (26)))))) [some (.int c), some (.str LL), some (.int size), some (.ref 0), some (.int j), o5, some (.ref H.length), some (.int ((c / 5) % size)), some (.str (chw cs'))] H2
          = some (.list (((List.range ((j : Int) + 1 + (c / 5) % 3).toNat).map fun (t : Nat) => lc ((c / 24 + 3 * (t : Int)) % 26)).map ch), H2) := by
        rw [← map_range_ch]
        have a1 := bin_fdiv c (d := 5) (by decide) (by decide)
        have a2 := bin_mod (c / 5) (d := 3) (by decide)
        refine comp_range (n := (j : Int) + 1 + (c / 5) % 3) (by simp only [evalE, List.getElem?_cons_succ, List.getElem?_cons_zero, binV, a1, a2, bin_add, Option.map_some]) (by omega) (by omega) (fun (t : Nat) => ch (lc ((c / 24 + 3 * (t : Int)) % 26))) fun t ht => ⟨[some (.int c), some (.str LL), some (.int size), some (.ref 0), some (.int j), some (.int t), some (.ref H.length), some (.int ((c / 5) % size)), some (.str (chw cs'))], by simp [bindT], ?_⟩
        have a1 := bin_fdiv c (d := 24) (by decide) (by decide)
        have a2 := bin_mul_small (x := 3) (y := (t : Int)) (by decide) (by decide) (by omega) (by omega)
        have a3 := bin_mod (c / 24 + 3 * (t : Int)) (d := 26) (by decide)
        have a4 := letter_at H2 (i := (c / 24 + 3 * (t : Int)) % 26) (Int.emod_nonneg _ (by decide)) (Int.emod_lt_of_pos _ (by decide))
        simp only [evalE, List.getElem?_cons_succ, List.getElem?_cons_zero, binV, a1, a2, a3, bin_add, a4, Option.map_some]
      generalize hds : (List.range ((j : Int) + 1 + (c / 5) % 3).toNat).map (fun (t : Nat) => lc ((c / 24 + 3 * (t : Int)) % 26)) = ds at e2
      have hdl : ds.length = ((j : Int) + 1 + (c / 5) % 3).toNat := by rw [← hds]; simp
      have hdg : ∀ x ∈ ds, 97 ≤ x ∧ x ≤ 122 := by
        intro x hx
        rw [← hds, List.mem_map] at hx
        obtain ⟨t, _, rfl⟩ := hx
        exact lc_letter (Int.emod_nonneg _ (by decide)) (Int.emod_lt_of_pos _ (by decide))
      have hj2 := join_at (H := H2) (v := .lst (ds.map ch)) (cs := ds) (by unfold lid; omega) .lst
      refine ⟨chw ds, good_chw (by omega) (by omega) hdg, ?_⟩
      simp only [evalS, evalSs, evalE, evalEs, evalCmp, cmpV, veq, binV, m3, hb, truthyV, e2, frzO, primV, hj2, bindT, List.getElem?_cons_zero, Option.map_some, List.length_cons, List.length_nil]
      rfl
    · have hb : (c % 3 == 1) = false := by simpa using h
      refine ⟨chw cs', g0, ?_⟩
      simp only [evalS, evalSs, evalE, evalEs, evalCmp, cmpV, veq, binV, m3, hb, truthyV, List.getElem?_cons_zero, Option.map_some]
  obtain ⟨w1, g1, s5⟩ := s5
  rw [evalSs_cons s5]
  have s6 : ∃ w, GoodW w ∧ evalS ⟨FF (k + 1), 0⟩ (.iff (.cmp (.bin .Mod (.var 0) (.const (V.int (3)))) [.Eq] [(.const (V.int (2)))]) [(.assign (.slot 8) (.prim .join [(.frz (.comp (.slot 5) (.range (.bin .Add (.const (V.int (1))) (.bin .Mod (.bin .Add (.bin .FloorDiv (.var 0) (.const (V.int (3)))) (.var 4)) (.const (V.int (8)))))) [] (.sub (.var 1) (.bin .Mod (.call 8 [(.var 0), (.bin .Add (.bin .Mult (.const (V.int (9))) (.var 4)) (.var 5))]) (.const (V.int (26)))))))]))] []) [some (.int c), some (.str LL), some (.int size), some (.ref 0), some (.int j), o5, some (.ref H.length), some (.int ((c / 5) % size)), some (.str w1)] H2
      = some (.next, [some (.int c), some (.str LL), some (.int size), some (.ref 0), some (.int j), o5, some (.ref H.length), some (.int ((c / 5) % size)), some (.str w)], H2) := by
    by_cases h : c % 3 = 2
    · have hb : (c % 3 == 2) = true := by simpa using h
      have n0 := Int.emod_nonneg (c / 3 + (j : Int)) (b := 8) (by decide)
      have n1 := Int.emod_lt_of_pos (c / 3 + (j : Int)) (b := 8) (by decide)
      have e2 : evalL ⟨FF (k + 1), 0⟩ (.comp (.slot 5) (.range (.bin .Add (.const (V.int (1))) (.bin .Mod (.bin .Add (.bin .FloorDiv (.var 0) (.const (V.int (3)))) (.var 4)) (.const (V.int (8)))))) [] (.sub (.var 1) (.bin .Mod (.call 8 [(.var 0), (.bin .Add (.bin .Mult (.const (V.int (9))) (.var 4)) (.var 5))]) (.const (V.int (26)))))) [some (.int c), some (.str LL), some (.int size), some (.ref 0), some (.int j), o5, some (.ref H.length), some (.int ((c / 5) % size)), some (.str w1)] H2
          = some (.list (((List.range (1 + (c / 3 + (j : Int)) % 8).toNat).map fun (t : Nat) => lc (mix c (9 * (j : Int) + (t : Int)) % 26)).map ch), H2) := by
        rw [← map_range_ch]
        have a1 := bin_fdiv c (d := 3) (by decide) (by decide)
        have a2 := bin_mod (c / 3 + (j : Int)) (d := 8) (by decide)
        refine comp_range (n := 1 + (c / 3 + (j : Int)) % 8) (by simp only [evalE, List.getElem?_cons_succ, List.getElem?_cons_zero, binV, a1, a2, bin_add, Option.map_some]) (by omega) (by omega) (fun (t : Nat) => ch (lc (mix c (9 * (j : Int) + (t : Int)) % 26))) fun t ht => ⟨[some (.int c), some (.str LL), some (.int size), some (.ref 0), some (.int j), some (.int t), some (.ref H.length), some (.int ((c / 5) % size)), some (.str w1)], by simp [bindT], ?_⟩
        have a2 := bin_mul_small (x := 9) (y := (j : Int)) (by decide) (by decide) (by omega) (by omega)
        have a5 := mixed_spec k hc (j := 9 * (j : Int) + (t : Int)) (by omega) (by omega) H2
        have a3 := bin_mod (mix c (9 * (j : Int) + (t : Int))) (d := 26) (by decide)
        have a4 := letter_at H2 (i := mix c (9 * (j : Int) + (t : Int)) % 26) (Int.emod_nonneg _ (by decide)) (Int.emod_lt_of_pos _ (by decide))
        simp only [evalE, evalEs, List.getElem?_cons_succ, List.getElem?_cons_zero, binV, a2, bin_add, a5, a3, a4, Option.map_some]
      generalize hds : (List.range (1 + (c / 3 + (j : Int)) % 8).toNat).map (fun (t : Nat) => lc (mix c (9 * (j : Int) + (t : Int)) % 26)) = ds at e2
      have hdl : ds.length = (1 + (c / 3 + (j : Int)) % 8).toNat := by rw [← hds]; simp
      have hdg : ∀ x ∈ ds, 97 ≤ x ∧ x ≤ 122 := by
        intro x hx
        rw [← hds, List.mem_map] at hx
        obtain ⟨t, _, rfl⟩ := hx
        exact lc_letter (Int.emod_nonneg _ (by decide)) (Int.emod_lt_of_pos _ (by decide))
      have hj2 := join_at (H := H2) (v := .lst (ds.map ch)) (cs := ds) (by unfold lid; omega) .lst
      refine ⟨chw ds, good_chw (by omega) (by omega) hdg, ?_⟩
      simp only [evalS, evalSs, evalE, evalEs, evalCmp, cmpV, veq, binV, m3, hb, truthyV, e2, frzO, primV, hj2, bindT, List.getElem?_cons_zero, Option.map_some, List.length_cons, List.length_nil]
      rfl
    · have hb : (c % 3 == 2) = false := by simpa using h
      refine ⟨w1, g1, ?_⟩
      simp only [evalS, evalSs, evalE, evalEs, evalCmp, cmpV, veq, binV, m3, hb, truthyV, List.getElem?_cons_zero, Option.map_some]
  obtain ⟨w2, g2, s6⟩ := s6
  rw [evalSs_cons s6, last]
  exact ⟨w2, _, _, _, _, _, g2, rfl⟩
end Mine
end

section
set_option autoImplicit false
namespace Mine
open PySem

theorem sdd_len (σ : List Str) (w : Str) : (sdd σ w).length ≤ σ.length + 1 := by
  unfold sdd; split <;> simp
theorem fold_len : ∀ (ws σ : List Str), (ws.foldl sdd σ).length ≤ σ.length + ws.length
  | [], σ => by simp
  | w :: ws, σ => by
    have h1 := fold_len ws (sdd σ w)
    have h2 := sdd_len σ w
    simp only [List.foldl_cons, List.length_cons]
    omega
theorem fold_nodup : ∀ (ws σ : List Str), (ws.foldl sdd σ).length = σ.length + ws.length → ws.Nodup ∧ ∀ w ∈ ws, w ∉ σ
  | [], σ, _ => by simp
  | w :: ws, σ, h => by
    simp only [List.foldl_cons, List.length_cons] at h
    by_cases hw : σ.any (· == w) = true
    · have e : sdd σ w = σ := by unfold sdd; rw [if_pos hw]
      rw [e] at h
      have := fold_len ws σ
      omega
    · have e : sdd σ w = σ ++ [w] := by unfold sdd; rw [if_neg hw]
      rw [e] at h
      obtain ⟨a, b⟩ := fold_nodup ws (σ ++ [w]) (by simp only [List.length_append, List.length_singleton]; omega)
      have hws : w ∉ σ := fun m => hw (by rw [List.any_eq_true]; exact ⟨w, m, by simp⟩)
      refine ⟨List.nodup_cons.mpr ⟨fun m => b w m (by simp), a⟩, fun x hx => ?_⟩
      rcases List.mem_cons.mp hx with rfl | hx
      · exact hws
      · intro m; exact b x hx (by simp [m])

noncomputable def Asc6 (ws : List Str) : Prop := ws.length = 6 ∧ (∀ w ∈ ws, GoodW w) ∧ ws.Pairwise fun a b => strLt a b = true

theorem sorted_asc {ws : List Str} (hl : ws.length = 6) (hg : ∀ w ∈ ws, GoodW w) (hn : ws.Nodup) : Asc6 (ssort ws) := by
  have hp := ssort_perm ws
  refine ⟨by rw [hp.length_eq]; exact hl, fun w hw => hg w (hp.mem_iff.mp hw), ?_⟩
  have h1 := ssort_sorted ws
  have h2 : (ssort ws).Nodup := hp.nodup_iff.mpr hn
  exact (h1.and h2).imp fun ⟨a, b⟩ => strLt_of a b

noncomputable def fallback : List Str := [Str.ofString "ab", Str.ofString "abc", Str.ofString "b", Str.ofString "ba", Str.ofString "bab", Str.ofString "c"]
noncomputable def goodB (s : Str) : Bool := decide (1 ≤ s.length) && decide (s.length ≤ 8) && s.cps.toList.all fun c => decide (97 ≤ c) && decide (c ≤ 122)
theorem goodB_of {s : Str} (h : goodB s = true) : GoodW s := by
  unfold goodB at h
  simp only [Bool.and_eq_true, decide_eq_true_eq, List.all_eq_true] at h
  exact ⟨h.1.1, h.1.2, h.2⟩
theorem fallback_asc : Asc6 fallback := by
  refine ⟨rfl, fun w hw => ?_, ?_⟩
  · have : fallback.all goodB = true := by decide +kernel
    exact goodB_of (List.all_eq_true.mp this w hw)
  · have : fallback.Pairwise (fun a b => strLt a b = true) := by decide +kernel
    exact this

theorem strsOf_map : ∀ ws : List Str, strsOf (ws.map V.str) = some ws
  | [] => rfl
  | w :: ws => by simp only [List.map_cons, strsOf, strsOf_map ws, Option.map_some]
theorem oks_strs (n : Nat) : ∀ ws : List Str, V.oks n (ws.map V.str) = true
  | [] => rfl
  | w :: ws => by simp [V.oks, V.ok, oks_strs n ws]

theorem fin_top {H : Hp} {v : V} (h : v.ok 0 = true) : finish [] H v = some (v, isNewRef H 0 v, []) := by
  have : frzV H 0 6 v = some v := by simp [frzV, h]
  simp [finish, this, okAll]

inductive WordsInv (c : Int) (xs : List V) (ρ : Loc) (H' : Hp) : Prop
  | mk (ws : List Str) (j : Nat) (rows : Hp) (o4 o5 o6 o7 o8 : Option V) (h0 : xs = (List.range' j (6 - j)).map (fun (t : Nat) => V.int (t : Int))) (hl : ws.length = j) (hj : j ≤ 6) (hg : ∀ w ∈ ws, GoodW w)
    (hH : H' = .list (ws.map V.str) :: rows) (hρ : ρ = [some (.int c), some (.str LL), some (.int (1 + (c / 3) % 8)), some (.ref 0), o4, o5, o6, o7, o8]) : WordsInv c xs ρ H'

theorem words_step (k : Nat) {c : Int} (hc : intBits c ≤ 1048580) {x : V} {xs : List V} {ρ : Loc} {H' : Hp} (h : WordsInv c (x :: xs) ρ H') :
    ∃ ρ1 ρ' H'', bindT (.slot 4) x ρ = some ρ1 ∧ evalSs ⟨FF (k + 1), 0⟩ wordsBody ρ1 H' = some (.next, ρ', H'') ∧ WordsInv c xs ρ' H'' := by
  obtain ⟨ws, j, rows, o4, o5, o6, o7, o8, ex, hwl, hj, hg, rfl, rfl⟩ := h
  have hj6 : j < 6 := by
    rcases Nat.lt_or_ge j 6 with h | h
    · exact h
    · rw [Nat.sub_eq_zero_of_le h] at ex; cases ex
  have e6 : 6 - j = (6 - (j + 1)) + 1 := by omega
  rw [e6, List.range'_succ, List.map_cons, List.cons.injEq] at ex
  obtain ⟨rfl, rfl⟩ := ex
  have n0 := Int.emod_nonneg (c / 3) (b := 8) (by decide)
  have n1 := Int.emod_lt_of_pos (c / 3) (b := 8) (by decide)
  obtain ⟨w, o5', o6', o7', o8', rows', gw, ev⟩ := words_turn k hc (size := 1 + (c / 3) % 8) (by omega) (by omega) (ws := ws) (rows := rows) hj6 (hwl ▸ hj) (o5 := o5) (o6 := o6) (o7 := o7) (o8 := o8)
  refine ⟨_, _, _, by simp [bindT], ev, ws ++ [w], j + 1, rows', _, o5', o6', o7', o8', rfl, by simp [hwl], hj6, ?_, rfl, rfl⟩
  intro x hx
  rcases List.mem_append.mp hx with q | q
  · exact hg x q
  · rw [List.mem_singleton] at q; subst q; exact gw

theorem words_spec (k : Nat) {c : Int} (hc : intBits c ≤ 1048580) : ∃ ws, Asc6 ws ∧ FF (k + 2) 9 [.int c] [] = some (.lst (ws.map V.str), false, []) := by
  rw [FF, F]
  simp only [P02, tab02, fn__law_words, List.getElem?_cons_succ, List.getElem?_cons_zero, List.length_cons, List.length_nil, if_true, List.map_cons, List.map_nil, List.cons_append, List.nil_append, List.replicate]
  have n0 := Int.emod_nonneg (c / 3) (b := 8) (by decide)
  have n1 := Int.emod_lt_of_pos (c / 3) (b := 8) (by decide)
  have a1 := bin_fdiv c (d := 3) (by decide) (by decide)
  have a2 := bin_mod (c / 3) (d := 8) (by decide)
  rw [evalSs_cons (ρ' := [some (.int c), some (.str LL), none, none, none, none, none, none, none]) (H' := []) (by simp [evalS, evalE, bindT])]
  rw [evalSs_cons (ρ' := [some (.int c), some (.str LL), some (.int (1 + (c / 3) % 8)), none, none, none, none, none, none]) (H' := []) (by simp [evalS, evalE, binV, a1, a2, bin_add, bindT])]
  rw [evalSs_cons (ρ' := [some (.int c), some (.str LL), some (.int (1 + (c / 3) % 8)), some (.ref 0), none, none, none, none, none]) (H' := [.list []]) (by simp [evalS, evalE, evalL, evalEs, bindT])]
  obtain ⟨ρ', H', e, ws, j, rows, o4, o5, o6, o7, o8, h0, hwl, hj, hg, rfl, rfl⟩ := for_inv (c := ⟨FF (k + 1), 0⟩) (t := .slot 4) (it := .range (.const (V.int 6))) (ρ := [some (.int c), some (.str LL), some (.int (1 + (c / 3) % 8)), some (.ref 0), none, none, none, none, none]) (H := [.list []]) (xs := rangeV 6) (G := []) (H1 := [.list []])
    (body := wordsBody)
    (by simp [evalIt, evalE]) (WordsInv c) (fun x xs ρ H' h => ⟨by simp, words_step k hc h⟩) (by simp)
    ⟨[], 0, [], none, none, none, none, none, by simp [rangeV, List.range_eq_range'], rfl, by decide, by simp, rfl, rfl⟩
  have hj6 : j = 6 := by
    have := congrArg List.length h0
    simp at this
    omega
  subst hj6
  have e' : evalS ⟨F P02 0 (k + 1), 0⟩ (.forr (.slot 4) (.range (.const (V.int 6))) wordsBody) [some (.int c), some (.str LL), some (.int (1 + (c / 3) % 8)), some (.ref 0), none, none, none, none, none] [.list []] = _ := e
  unfold wordsBody at e'
  rw [evalSs_cons e']
  have hs : setlenV (.list (ws.map V.str) :: rows) [.ref 0] = some (.int (ws.foldl sdd []).length) := by
    have h6 : ws.length ≤ 6 := by rw [hwl]; exact Nat.le_refl 6
    simp [setlenV, V.items, strsOf_map, h6]
  have hle := fold_len ws []
  by_cases hlt : (ws.foldl sdd []).length < 6
  · refine ⟨fallback, fallback_asc, ?_⟩
    have hlt' : ((ws.foldl sdd []).length : Int) < 6 := by omega
    simp [evalSs, evalS, evalE, evalEs, evalL, evalCmp, cmpV, primV, hs, hlt', truthyV, frzO]
    rw [fin_top (by simp [V.ok, V.oks])]
    rfl
  · have hnd : ws.Nodup := (fold_nodup ws [] (by simp at hle ⊢; omega)).1
    refine ⟨ssort ws, sorted_asc hwl hg hnd, ?_⟩
    have hlt' : ¬ ((ws.foldl sdd []).length : Int) < 6 := by omega
    have hso : sortV (ws.map V.str) = some ((ssort ws).map V.str) := by
      simp [sortV, strsOf_map, hwl]
    simp [evalSs, evalS, evalE, evalEs, evalL, evalCmp, cmpV, primV, hs, hlt', truthyV, frzO, V.items, hso]
    rw [fin_top (by simp only [V.ok]; exact oks_strs _ _)]
    rfl
end Mine
end

section
set_option autoImplicit false
namespace Mine
open PySem PySem.W

theorem sub_lst (H : Hp) {xs : List V} {i : Int} (h0 : 0 ≤ i) (h1 : i < xs.length) (hl : xs.length < 1000) : subV H (.lst xs) (.int i) = some (xs.getD i.toNat .none) := by
  have hi : idx i xs.length = some i.toNat := by
    unfold idx
    rw [if_pos ⟨h0, h1, by omega⟩]
  have hlt : i.toNat < xs.length := by omega
  simp only [subV, V.items, hi, List.getElem?_eq_getElem hlt, List.getD_eq_getElem?_getD, Option.getD_some]

theorem bits_div56 {c : Int} (h : intBits c ≤ 1048577) : intBits (c / 56) ≤ 1048580 := by
  have := bits_mono (x := c / 56) (y := c) (by omega)
  omega

noncomputable def goalOf (c at_ k many : Int) : Int :=
  [(if many - 1 < at_ + 1 then many - 1 else at_ + 1), (if many - 1 < at_ + 1 then many - 1 else at_ + 1), (mix (c / 56) (20 * at_ + 7 + k) / 4) % many, 0].getD ((mix (c / 56) (20 * at_ + 7 + k)) % 4).toNat 0

theorem goal_spec (k : Nat) {c at_ j many : Int} (hc : intBits c ≤ 1048577) (h0 : 0 ≤ at_) (h1 : at_ < 12) (h2 : 0 ≤ j) (h3 : j < 6) (h4 : 1 ≤ many) (h5 : many ≤ 12) (H : Hp) :
    FF (k + 2) 11 [.int c, .int at_, .int j, .int many] H = some (.int (goalOf c at_ j many), false, H) ∧ 0 ≤ goalOf c at_ j many ∧ goalOf c at_ j many ≤ many - 1 := by
  have hm := mix_range (c / 56) (20 * at_ + 7 + j)
  have n0 := Int.emod_nonneg (mix (c / 56) (20 * at_ + 7 + j)) (b := 4) (by decide)
  have n1 := Int.emod_lt_of_pos (mix (c / 56) (20 * at_ + 7 + j)) (b := 4) (by decide)
  have p0 := Int.emod_nonneg (mix (c / 56) (20 * at_ + 7 + j) / 4) (b := many) (by omega)
  have p1 := Int.emod_lt_of_pos (mix (c / 56) (20 * at_ + 7 + j) / 4) (b := many) (by omega)
  refine ⟨?_, ?_⟩
  · rw [FF, F]
    simp only [P02, tab02, fn__law_goal, List.getElem?_cons_succ, List.getElem?_cons_zero, List.length_cons, List.length_nil, if_true, List.map_cons, List.map_nil, List.cons_append, List.nil_append, List.replicate]
    have a1 := bin_fdiv c (d := 56) (by decide) (by decide)
    have a2 := bin_mul_small (x := 20) (y := at_) (by decide) (by decide) (by omega) (by omega)
    have a3 := mixed_spec k (bits_div56 hc) (j := 20 * at_ + 7 + j) (by omega) (by omega) H
    have a4 := bin_fdiv (mix (c / 56) (20 * at_ + 7 + j)) (d := 4) (by decide) (by decide)
    have a5 := bin_mod (mix (c / 56) (20 * at_ + 7 + j) / 4) (d := many) (by omega)
    have a6 := bin_mod (mix (c / 56) (20 * at_ + 7 + j)) (d := 4) (by decide)
    simp only [FF] at a3
    rw [evalSs_cons (ρ' := [some (.int c), some (.int at_), some (.int j), some (.int many), some (.int (mix (c / 56) (20 * at_ + 7 + j)))]) (H' := H) (by
      simp only [evalS, evalE, evalEs, List.getElem?_cons_succ, List.getElem?_cons_zero, binV, a1, a2, bin_add, a3, Option.map_some, bindT, List.length_cons, List.length_nil]
      rfl)]
    generalize hmx : mix (c / 56) (20 * at_ + 7 + j) = mx at *
    have a7 := sub_lst H (xs := [.int (if many - 1 < at_ + 1 then many - 1 else at_ + 1), .int (if many - 1 < at_ + 1 then many - 1 else at_ + 1), .int (mx / 4 % many), .int 0]) (i := mx % 4) n0 (by simpa using n1) (by simp)
    have a8 : ([.int (if many - 1 < at_ + 1 then many - 1 else at_ + 1), .int (if many - 1 < at_ + 1 then many - 1 else at_ + 1), .int (mx / 4 % many), .int 0] : List V).getD (mx % 4).toNat .none = .int (goalOf c at_ j many) := by
      unfold goalOf
      rw [hmx]
      have : (mx % 4).toNat < 4 := by omega
      generalize (mx % 4).toNat = q at this
      match q, this with
      | 0, _ => rfl
      | 1, _ => rfl
      | 2, _ => rfl
      | 3, _ => rfl
    simp only [evalSs, evalS, evalE, evalEs, evalL, List.getElem?_cons_succ, List.getElem?_cons_zero, binV, bin_add, bin_sub, a4, a5, a6, Option.map_some, primV, minV, frzO, a7, a8, fin_int]
  · unfold goalOf
    generalize hmx : mix (c / 56) (20 * at_ + 7 + j) = mx at *
    have hq : (mx % 4).toNat < 4 := by omega
    generalize (mx % 4).toNat = q at hq
    match q, hq with
    | 0, _ => simp; split <;> omega
    | 1, _ => simp; split <;> omega
    | 2, _ => simp; omega
    | 3, _ => simp; omega

/-- the ranks of a turn of the six words -/
noncomputable def rots (s n : Nat) : List Nat := (List.range n).map fun k => (s + k) % 6
noncomputable def ansR (rs : List Nat) (i j : Nat) : Bool := decide (rs.getD i 0 < rs.getD j 0)
noncomputable def ascB : List Nat → Bool
  | [] => true
  | [_] => true
  | x :: y :: r => decide (x < y) && ascB (y :: r)
noncomputable def rotChk (s n : Nat) : Bool :=
  let p := (runT (ansR (rots s n)) (kas_sort n)).toList
  p.all (fun i => decide (i < n)) && decide (p.length = n) && ascB (p.map fun i => (rots s n).getD i 0)
theorem rot_chk : ([2, 3, 6] : List Nat).all (fun n => (List.range 6).all fun s => rotChk s n) = true := by decide +kernel
end Mine
end

section
set_option autoImplicit false
namespace Mine
open PySem PySem.W

theorem runT_congr {α : Type} {n : Nat} {R : α → Prop} {a b : Nat → Nat → Bool} (h : ∀ i j, i < n → j < n → a i j = b i j) : ∀ {t : KasT α}, Bnd n R t → runT a t = runT b t
  | .ret _, _ => rfl
  | .ask i j k, hb => by
    show runT a (k (a i j)) = runT b (k (b i j))
    rw [h i j hb.1 hb.2.1]
    exact runT_congr h (hb.2.2 _)

theorem asc_lt {ws : List Str} (h : Asc6 ws) {a b : Nat} (ha : a < 6) (hb : b < 6) : strLt (ws.getD a Str.empty) (ws.getD b Str.empty) = decide (a < b) := by
  obtain ⟨hl, _, hp⟩ := h
  rw [List.pairwise_iff_getElem] at hp
  have ga : ws.getD a Str.empty = ws[a]'(by omega) := by simp [List.getD_eq_getElem?_getD, List.getElem?_eq_getElem (show a < ws.length by omega)]
  have gb : ws.getD b Str.empty = ws[b]'(by omega) := by simp [List.getD_eq_getElem?_getD, List.getElem?_eq_getElem (show b < ws.length by omega)]
  rw [ga, gb]
  rcases Nat.lt_trichotomy a b with q | q | q
  · rw [hp a b (by omega) (by omega) q]; simp [q]
  · subst q
    have : strLt ws[a] ws[a] = false := by
      unfold strLt; rw [decide_eq_false_iff_not]; exact List.lt_irrefl _
    rw [this]; simp
  · have h1 := hp b a (by omega) (by omega) q
    have h2 := sle_of_lt h1
    rw [strLt_sle.mpr h2]
    have : ¬ a < b := by omega
    simp [this]
theorem asc_inj {ws : List Str} (h : Asc6 ws) {a b : Nat} (ha : a < 6) (hb : b < 6) (e : ws.getD a Str.empty = ws.getD b Str.empty) : a = b := by
  have h1 := asc_lt h ha hb
  have h2 := asc_lt h hb ha
  rw [e] at h1
  rw [← e] at h2
  have h3 := asc_lt h hb hb
  have h4 := asc_lt h ha ha
  rw [h1] at h3
  rw [h2] at h4
  simp at h3 h4
  omega

theorem ascB_Asc {ws : List Str} (h : Asc6 ws) : ∀ (ys : List (Str × Int)) (rs : List Nat), ys.map (·.1) = rs.map (fun r => ws.getD r Str.empty) → (∀ r ∈ rs, r < 6) → ascB rs = true → Asc (Str.ofString "") ys
  | ys, rs, e, hr, ha => by
    have hne : ∀ w, GoodW w → strLt (Str.ofString "") w = true := by
      intro w hw
      unfold strLt
      rw [decide_eq_true_eq, empty_cps]
      have := hw.1
      cases q : w.cps.toList with
      | nil => have : w.cps.size = 0 := by rw [← Array.length_toList, q]; rfl
               unfold Str.length at *; omega
      | cons x r => exact List.nil_lt_cons _ _
    have go : ∀ (ys : List (Str × Int)) (rs : List Nat) (last : Str), ys.map (·.1) = rs.map (fun r => ws.getD r Str.empty) → (∀ r ∈ rs, r < 6) → ascB rs = true → (∀ r, rs.head? = some r → strLt last (ws.getD r Str.empty) = true) → Asc last ys := by
      intro ys
      induction ys with
      | nil => intro rs last _ _ _ _; trivial
      | cons y ys ih =>
        intro rs last e hr ha hh
        cases rs with
        | nil => simp at e
        | cons r rs =>
          simp only [List.map_cons, List.cons.injEq] at e
          refine ⟨by rw [e.1]; exact hh r rfl, ?_⟩
          refine ih rs y.1 e.2 (fun r hr' => hr r (List.mem_cons_of_mem _ hr')) ?_ ?_
          · cases rs with
            | nil => rfl
            | cons r2 rs => simp only [ascB, Bool.and_eq_true] at ha; exact ha.2
          · intro r2 h2
            cases rs with
            | nil => simp at h2
            | cons r3 rs =>
              simp only [List.head?_cons, Option.some.injEq] at h2
              subst h2
              simp only [ascB, Bool.and_eq_true, decide_eq_true_eq] at ha
              rw [e.1, asc_lt h (hr r List.mem_cons_self) (hr r3 (by simp))]
              simp [ha.1]
    refine go ys rs _ e hr ha fun r hr' => hne _ (h.2.1 _ ?_)
    have hr6 := hr r (List.mem_of_mem_head? (by simp [hr']))
    have hl := h.1
    rw [List.getD_eq_getElem?_getD, List.getElem?_eq_getElem (by omega)]
    exact List.getElem_mem _
end Mine
end

section
set_option autoImplicit false
namespace Mine
open PySem PySem.W

theorem strsOf_wv (x : Str × Int) (xs : List (Str × Int)) : strsOf ((x :: xs).map wv) = none := rfl
theorem all_pair : ∀ xs : List (Str × Int), (xs.map wv).all isPairV = true
  | [] => rfl
  | x :: xs => by simp only [List.map_cons, List.all_cons, all_pair xs, Bool.and_true]; rfl

theorem ways_sorted {ws : List Str} (h : Asc6 ws) {s n : Nat} (hs : s < 6) (hn : n = 1 ∨ n = 2 ∨ n = 3 ∨ n = 6) {xs : List (Str × Int)} (hl : xs.length = n)
    (hx : ∀ k, k < n → (xs.getD k (Str.empty, 0)).1 = ws.getD ((s + k) % 6) Str.empty) :
    ∃ ys, sortV (xs.map wv) = some (ys.map wv) ∧ ys.length = n ∧ (∀ y ∈ ys, y ∈ xs) ∧ Asc (Str.ofString "") ys := by
  have hlt : (xs.map wv).length < 64 := by simp; omega
  have hnone : strsOf (xs.map wv) = none := by
    cases xs with
    | nil => simp at hl; omega
    | cons x xs => exact strsOf_wv x xs
  by_cases h1 : n = 1
  · subst h1
    refine ⟨xs, ?_, hl, fun _ m => m, ?_⟩
    · unfold sortV
      rw [if_pos hlt, hnone]
      simp only [all_pair, if_true, List.length_map, hl]
      rfl
    · obtain ⟨x, rfl⟩ := List.length_eq_one_iff.mp hl
      have := hx 0 (by omega)
      exact ascB_Asc h [x] [(s + 0) % 6] (by simpa using this) (by simp; omega) rfl
  · have h2 : ¬ (xs.map wv).length < 2 := by simp; omega
    have hmem : n ∈ ([2, 3, 6] : List Nat) := by simp; omega
    have hchk := List.all_eq_true.mp rot_chk n hmem
    have hchk := List.all_eq_true.mp hchk s (List.mem_range.mpr hs)
    unfold rotChk at hchk
    simp only [Bool.and_eq_true, decide_eq_true_eq, List.all_eq_true] at hchk
    obtain ⟨⟨c1, c2⟩, c3⟩ := hchk
    have hget : ∀ i, i < n → (xs.map wv).getD i .none = wv (xs.getD i (Str.empty, 0)) := by
      intro i hi
      have hi' : i < xs.length := by omega
      simp [List.getD_eq_getElem?_getD, List.getElem?_eq_getElem hi']
    have hans : ∀ i j, i < n → j < n → sltV ((xs.map wv).getD i .none) ((xs.map wv).getD j .none) = ansR (rots s n) i j := by
      intro i j hi hj
      rw [hget i hi, hget j hj]
      have ri : (rots s n).getD i 0 = (s + i) % 6 := by simp [rots, List.getD_eq_getElem?_getD, hi]
      have rj : (rots s n).getD j 0 = (s + j) % 6 := by simp [rots, List.getD_eq_getElem?_getD, hj]
      unfold ansR
      rw [ri, rj]
      by_cases hij : i = j
      · subst hij
        generalize xs.getD i (Str.empty, 0) = x
        show (if x.1 = x.1 then decide (x.2 < x.2) else strLt x.1 x.1) = _
        simp
      have ei := hx i hi
      have ej := hx j hj
      generalize xs.getD i (Str.empty, 0) = x at ei
      generalize xs.getD j (Str.empty, 0) = y at ej
      obtain ⟨xs1, xi⟩ := x
      obtain ⟨ys1, yi⟩ := y
      simp only at ei ej
      subst ei ej
      show (if _ = _ then decide (_ < _) else strLt _ _) = _
      have hne : ws.getD ((s + i) % 6) Str.empty ≠ ws.getD ((s + j) % 6) Str.empty := fun e => hij (by
        have := asc_inj h (Nat.mod_lt _ (by decide)) (Nat.mod_lt _ (by decide)) e
        omega)
      rw [if_neg hne]
      exact asc_lt h (Nat.mod_lt _ (by decide)) (Nat.mod_lt _ (by decide))
    have hperm : permV (xs.map wv) = (runT (ansR (rots s n)) (kas_sort n)).toList := by
      unfold permV
      rw [List.length_map, hl]
      exact congrArg Array.toList (runT_congr (R := PR n) hans (bnd_sort (by omega)))
    generalize hp : (runT (ansR (rots s n)) (kas_sort n)).toList = p at c1 c2 c3 hperm
    refine ⟨p.map fun i => xs.getD i (Str.empty, 0), ?_, by simp [c2], ?_, ?_⟩
    · unfold sortV
      rw [if_pos hlt, hnone]
      simp only [all_pair, if_true]
      rw [if_neg h2, hperm, List.map_map]
      congr 1
      apply List.map_congr_left
      intro i hi
      exact hget i (c1 i hi)
    · intro y hy
      rw [List.mem_map] at hy
      obtain ⟨i, hi, rfl⟩ := hy
      have := c1 i hi
      rw [List.getD_eq_getElem?_getD, List.getElem?_eq_getElem (by omega)]
      exact List.getElem_mem _
    · refine ascB_Asc h _ (p.map fun i => (rots s n).getD i 0) ?_ ?_ c3
      · rw [List.map_map, List.map_map]
        apply List.map_congr_left
        intro i hi
        have hi' := c1 i hi
        have ri : (rots s n).getD i 0 = (s + i) % 6 := by simp [rots, List.getD_eq_getElem?_getD, hi']
        simp only [Function.comp, ri]
        exact hx i hi'
      · intro r hr
        rw [List.mem_map] at hr
        obtain ⟨i, hi, rfl⟩ := hr
        have hi' := c1 i hi
        have ri : (rots s n).getD i 0 = (s + i) % 6 := by simp [rots, List.getD_eq_getElem?_getD, hi']
        rw [ri]; exact Nat.mod_lt _ (by decide)
end Mine
end

section
set_option autoImplicit false
namespace Mine
open PySem

noncomputable def planBody : List S := [(.assign (.slot 5) (.call 8 [(.bin .FloorDiv (.var 0) (.const (V.int (56)))), (.bin .Mult (.const (V.int (20))) (.var 4))])), (.assign (.slot 6) (.sub (.frz (.disp [(.const (V.str (Str.ofString "send"))), (.const (V.str (Str.ofString "get"))), (.const (V.str (Str.ofString "send"))), (.const (V.str (Str.ofString "get"))), (.const (V.str (Str.ofString "end"))), (.const (V.str (Str.ofString "send"))), (.const (V.str (Str.ofString "get")))])) (.bin .Mod (.var 5) (.const (V.int (7)))))), (.iff (.or [(.cmp (.var 6) [.Eq] [(.const (V.str (Str.ofString "end")))]), (.and [(.cmp (.var 4) [.Gt] [(.const (V.int (0)))]), (.cmp (.var 4) [.Eq] [(.bin .Sub (.var 2) (.const (V.int (1))))]), (.cmp (.bin .Mod (.bin .FloorDiv (.var 5) (.const (V.int (5)))) (.const (V.int (3)))) [.Gt] [(.const (V.int (0)))])])]) [(.expr (.eff .append [(.var 3), (.tup [(.const (V.str (Str.ofString "end")))])]))] [(.assign (.slot 7) (.sub (.frz (.disp [(.const (V.int (1))), (.const (V.int (2))), (.const (V.int (1))), (.const (V.int (3))), (.const (V.int (2))), (.const (V.int (6)))])) (.bin .Mod (.bin .FloorDiv (.var 5) (.const (V.int (15)))) (.const (V.int (6)))))), (.assign (.slot 9) (.frz (.comp (.slot 8) (.range (.var 7)) [] (.sub (.var 1) (.bin .Mod (.bin .Add (.bin .FloorDiv (.var 5) (.const (V.int (90)))) (.var 8)) (.const (V.int (6)))))))), (.assign (.slot 10) (.frz (.comp (.slot 8) (.range (.var 7)) [] (.tup [(.sub (.var 9) (.var 8)), (.call 11 [(.var 0), (.var 4), (.var 8), (.var 2)])])))), (.expr (.eff .append [(.var 3), (.tup [(.var 6), (.prim .tuple [(.frz (.sorted (.var 10)))])])]))])]

theorem assign_slot {c : Ctx} {e : E} {ρ : Loc} {H H1 : Hp} {v : V} {i : Nat} (h : evalE c e ρ H = some (v, H1)) (hi : i < ρ.length) : evalS c (.assign (.slot i) e) ρ H = some (.next, ρ.set i (some v), H1) := by
  simp only [evalS, h, bindT, hi, if_true, Option.map_some]
theorem frz_list {c : Ctx} {l : L} {ρ : Loc} {H H1 : Hp} {xs : List V} (h : evalL c l ρ H = some (.list xs, H1)) : evalE c (.frz l) ρ H = some (.lst xs, H1) := by
  simp only [evalE, h, frzO, Option.map_some]

theorem seven {q : Nat} (h : q < 7) : ∃ s : Str, ([.str (Str.ofString "send"), .str (Str.ofString "get"), .str (Str.ofString "send"), .str (Str.ofString "get"), .str (Str.ofString "end"), .str (Str.ofString "send"), .str (Str.ofString "get")] : List V).getD q .none = .str s ∧ (s = Str.ofString "end" ∨ ∃ b, s = kindS b) := by
  match q, h with
  | 0, _ => exact ⟨_, rfl, .inr ⟨true, rfl⟩⟩
  | 1, _ => exact ⟨_, rfl, .inr ⟨false, rfl⟩⟩
  | 2, _ => exact ⟨_, rfl, .inr ⟨true, rfl⟩⟩
  | 3, _ => exact ⟨_, rfl, .inr ⟨false, rfl⟩⟩
  | 4, _ => exact ⟨_, rfl, .inl rfl⟩
  | 5, _ => exact ⟨_, rfl, .inr ⟨true, rfl⟩⟩
  | 6, _ => exact ⟨_, rfl, .inr ⟨false, rfl⟩⟩
theorem six {q : Nat} (h : q < 6) : ∃ n : Nat, ([.int 1, .int 2, .int 1, .int 3, .int 2, .int 6] : List V).getD q .none = .int n ∧ (n = 1 ∨ n = 2 ∨ n = 3 ∨ n = 6) := by
  match q, h with
  | 0, _ => exact ⟨1, rfl, by simp⟩
  | 1, _ => exact ⟨2, rfl, by simp⟩
  | 2, _ => exact ⟨1, rfl, by simp⟩
  | 3, _ => exact ⟨3, rfl, by simp⟩
  | 4, _ => exact ⟨2, rfl, by simp⟩
  | 5, _ => exact ⟨6, rfl, by simp⟩

noncomputable def planElse : List S := [(.assign (.slot 7) (.sub (.frz (.disp [(.const (V.int (1))), (.const (V.int (2))), (.const (V.int (1))), (.const (V.int (3))), (.const (V.int (2))), (.const (V.int (6)))])) (.bin .Mod (.bin .FloorDiv (.var 5) (.const (V.int (15)))) (.const (V.int (6)))))), (.assign (.slot 9) (.frz (.comp (.slot 8) (.range (.var 7)) [] (.sub (.var 1) (.bin .Mod (.bin .Add (.bin .FloorDiv (.var 5) (.const (V.int (90)))) (.var 8)) (.const (V.int (6)))))))), (.assign (.slot 10) (.frz (.comp (.slot 8) (.range (.var 7)) [] (.tup [(.sub (.var 9) (.var 8)), (.call 11 [(.var 0), (.var 4), (.var 8), (.var 2)])])))), (.expr (.eff .append [(.var 3), (.tup [(.var 6), (.prim .tuple [(.frz (.sorted (.var 10)))])])]))]

theorem plan_go (k : Nat) {c many mx : Int} (hc : intBits c ≤ 1048577) (h1 : 1 ≤ many) (h2 : many ≤ 12) {ws : List Str} (hw : Asc6 ws) {ps : List Stp} {j : Nat} (hj : (j : Int) < many) (hpl : ps.length ≤ 12) {bb : Bool} {o7 o8 o9 o10 : Option V} :
    ∃ ys o7' o8' o9' o10', GoodWays many ys ∧ evalSs ⟨FF (k + 2), 0⟩ planElse [some (.int c), some (.lst (ws.map V.str)), some (.int many), some (.ref 0), some (.int j), some (.int mx), some (.str (kindS bb)), o7, o8, o9, o10] [.list (ps.map Stp.v)] =
      some (.next, [some (.int c), some (.lst (ws.map V.str)), some (.int many), some (.ref 0), some (.int j), some (.int mx), some (.str (kindS bb)), o7', o8', o9', o10'], [.list ((ps ++ [Stp.go bb ys]).map Stp.v)]) := by
  have e0 := Int.emod_nonneg (mx / 15) (b := 6) (by decide)
  have e1 := Int.emod_lt_of_pos (mx / 15) (b := 6) (by decide)
  obtain ⟨n, en, hn⟩ := six (q := (mx / 15 % 6).toNat) (by omega)
  have hn6 : n ≤ 6 ∧ 1 ≤ n := by omega
  have hwl := hw.1
  generalize hH : ([.list (ps.map Stp.v)] : Hp) = H
  have hlp : ps.length ≤ lid := by unfold lid; omega
  unfold planElse
  have s3 : evalS ⟨FF (k + 2), 0⟩ (.assign (.slot 7) (.sub (.frz (.disp [(.const (V.int (1))), (.const (V.int (2))), (.const (V.int (1))), (.const (V.int (3))), (.const (V.int (2))), (.const (V.int (6)))])) (.bin .Mod (.bin .FloorDiv (.var 5) (.const (V.int (15)))) (.const (V.int (6)))))) [some (.int c), some (.lst (ws.map V.str)), some (.int many), some (.ref 0), some (.int j), some (.int mx), some (.str (kindS bb)), o7, o8, o9, o10] H
      = some (.next, [some (.int c), some (.lst (ws.map V.str)), some (.int many), some (.ref 0), some (.int j), some (.int mx), some (.str (kindS bb)), some (.int n), o8, o9, o10], H) := by
    have a1 := bin_fdiv mx (d := 15) (by decide) (by decide)
    have a2 := bin_mod (mx / 15) (d := 6) (by decide)
    have a4 := sub_lst H (xs := [.int 1, .int 2, .int 1, .int 3, .int 2, .int 6]) (i := mx / 15 % 6) e0 (by simpa using e1) (by simp)
    simp only [evalS, evalE, evalEs, evalL, List.getElem?_cons_succ, List.getElem?_cons_zero, binV, a1, a2, a4, en, frzO, Option.map_some, bindT, List.length_cons, List.length_nil]
    rfl
  rw [evalSs_cons s3]
  have d0 := Int.emod_nonneg (mx / 90) (b := 6) (by decide)
  have d1 := Int.emod_lt_of_pos (mx / 90) (b := 6) (by decide)
  obtain ⟨s, hs⟩ : ∃ s : Nat, (s : Int) = mx / 90 % 6 := ⟨(mx / 90 % 6).toNat, by omega⟩
  have hs6 : s < 6 := by omega
  have e4 : evalL ⟨FF (k + 2), 0⟩ (.comp (.slot 8) (.range (.var 7)) [] (.sub (.var 1) (.bin .Mod (.bin .Add (.bin .FloorDiv (.var 5) (.const (V.int (90)))) (.var 8)) (.const (V.int (6)))))) [some (.int c), some (.lst (ws.map V.str)), some (.int many), some (.ref 0), some (.int j), some (.int mx), some (.str (kindS bb)), some (.int n), o8, o9, o10] H
      = some (.list ((List.range (n : Int).toNat).map fun t => V.str (ws.getD ((s + t) % 6) Str.empty)), H) := by
    refine comp_range (n := (n : Int)) (by simp [evalE]) (by omega) (by omega) (fun t => V.str (ws.getD ((s + t) % 6) Str.empty)) fun t ht => ⟨[some (.int c), some (.lst (ws.map V.str)), some (.int many), some (.ref 0), some (.int j), some (.int mx), some (.str (kindS bb)), some (.int n), some (.int t), o9, o10], by simp [bindT], ?_⟩
    have a1 := bin_fdiv mx (d := 90) (by decide) (by decide)
    have a2 := bin_mod (mx / 90 + (t : Int)) (d := 6) (by decide)
    have a4 := sub_lst H (xs := ws.map V.str) (i := (mx / 90 + (t : Int)) % 6) (Int.emod_nonneg _ (by decide)) (by
      have := Int.emod_lt_of_pos (mx / 90 + (t : Int)) (b := 6) (by decide)
      rw [List.length_map, hwl]; omega) (by rw [List.length_map, hwl]; omega)
    have a5 : (ws.map V.str).getD ((mx / 90 + (t : Int)) % 6).toNat .none = .str (ws.getD ((s + t) % 6) Str.empty) := by
      have i1 : ((mx / 90 + (t : Int)) % 6).toNat = (s + t) % 6 := by omega
      have i2 : (s + t) % 6 < ws.length := by rw [hwl]; exact Nat.mod_lt _ (by decide)
      rw [i1]
      simp [List.getD_eq_getElem?_getD, List.getElem?_eq_getElem i2]
    simp only [evalE, evalEs, List.getElem?_cons_succ, List.getElem?_cons_zero, binV, a1, a2, bin_add, a4, a5, Option.map_some]
  rw [Int.toNat_natCast] at e4
  have s4 : evalS ⟨FF (k + 2), 0⟩ (.assign (.slot 9) (.frz (.comp (.slot 8) (.range (.var 7)) [] (.sub (.var 1) (.bin .Mod (.bin .Add (.bin .FloorDiv (.var 5) (.const (V.int (90)))) (.var 8)) (.const (V.int (6)))))))) [some (.int c), some (.lst (ws.map V.str)), some (.int many), some (.ref 0), some (.int j), some (.int mx), some (.str (kindS bb)), some (.int n), o8, o9, o10] H
      = some (.next, [some (.int c), some (.lst (ws.map V.str)), some (.int many), some (.ref 0), some (.int j), some (.int mx), some (.str (kindS bb)), some (.int n), o8, some (.lst ((List.range n).map fun t => V.str (ws.getD ((s + t) % 6) Str.empty))), o10], H) := by
    rw [assign_slot (frz_list e4) (by simp)]
    simp only [List.set_cons_succ, List.set_cons_zero]
  rw [evalSs_cons s4]
  have e5 : evalL ⟨FF (k + 2), 0⟩ (.comp (.slot 8) (.range (.var 7)) [] (.tup [(.sub (.var 9) (.var 8)), (.call 11 [(.var 0), (.var 4), (.var 8), (.var 2)])])) [some (.int c), some (.lst (ws.map V.str)), some (.int many), some (.ref 0), some (.int j), some (.int mx), some (.str (kindS bb)), some (.int n), o8, some (.lst ((List.range n).map fun t => V.str (ws.getD ((s + t) % 6) Str.empty))), o10] H
      = some (.list ((List.range (n : Int).toNat).map fun (t : Nat) => wv (ws.getD ((s + t) % 6) Str.empty, goalOf c j t many)), H) := by
    refine comp_range (n := (n : Int)) (by simp [evalE]) (by omega) (by omega) (fun (t : Nat) => wv (ws.getD ((s + t) % 6) Str.empty, goalOf c j t many)) fun t ht => ⟨[some (.int c), some (.lst (ws.map V.str)), some (.int many), some (.ref 0), some (.int j), some (.int mx), some (.str (kindS bb)), some (.int n), some (.int t), some (.lst ((List.range n).map fun t => V.str (ws.getD ((s + t) % 6) Str.empty))), o10], by simp [bindT], ?_⟩
    have a1 := (goal_spec k hc (at_ := (j : Int)) (j := (t : Int)) (many := many) (by omega) (by omega) (by omega) (by omega) h1 h2 H).1
    have a4 := sub_lst H (xs := (List.range n).map fun t => V.str (ws.getD ((s + t) % 6) Str.empty)) (i := (t : Int)) (by omega) (by simpa using ht) (by simp; omega)
    have a5 : ((List.range n).map fun t => V.str (ws.getD ((s + t) % 6) Str.empty)).getD (t : Int).toNat .none = .str (ws.getD ((s + t) % 6) Str.empty) := by
      have i1 : t < n := by omega
      simp [List.getD_eq_getElem?_getD, i1]
    simp only [evalE, evalEs, List.getElem?_cons_succ, List.getElem?_cons_zero, a1, a4, a5, Option.map_some]
    rfl
  rw [Int.toNat_natCast] at e5
  have e6 : ((List.range n).map fun (t : Nat) => wv (ws.getD ((s + t) % 6) Str.empty, goalOf c j t many)) = ((List.range n).map fun (t : Nat) => (ws.getD ((s + t) % 6) Str.empty, goalOf c j t many)).map wv := by
    rw [List.map_map]; rfl
  rw [e6] at e5
  generalize hxs : ((List.range n).map fun (t : Nat) => (ws.getD ((s + t) % 6) Str.empty, goalOf c j t many)) = xs at e5
  have hxl : xs.length = n := by rw [← hxs]; simp
  have hxg : ∀ x ∈ xs, GoodW x.1 ∧ 0 ≤ x.2 ∧ x.2 ≤ many - 1 := by
    intro x hx
    rw [← hxs, List.mem_map] at hx
    obtain ⟨t, ht, rfl⟩ := hx
    rw [List.mem_range] at ht
    have a1 := (goal_spec k hc (at_ := (j : Int)) (j := (t : Int)) (many := many) (by omega) (by omega) (by omega) (by omega) h1 h2 H).2
    refine ⟨hw.2.1 _ ?_, a1⟩
    have i2 : (s + t) % 6 < ws.length := by rw [hwl]; exact Nat.mod_lt _ (by decide)
    simp [List.getD_eq_getElem?_getD, List.getElem?_eq_getElem i2]
  obtain ⟨ys, ey, hyl, hym, hya⟩ := ways_sorted hw hs6 hn hxl (by
    intro t ht
    rw [← hxs]
    simp [List.getD_eq_getElem?_getD, ht])
  have s5 : evalS ⟨FF (k + 2), 0⟩ (.assign (.slot 10) (.frz (.comp (.slot 8) (.range (.var 7)) [] (.tup [(.sub (.var 9) (.var 8)), (.call 11 [(.var 0), (.var 4), (.var 8), (.var 2)])])))) [some (.int c), some (.lst (ws.map V.str)), some (.int many), some (.ref 0), some (.int j), some (.int mx), some (.str (kindS bb)), some (.int n), o8, some (.lst ((List.range n).map fun t => V.str (ws.getD ((s + t) % 6) Str.empty))), o10] H
      = some (.next, [some (.int c), some (.lst (ws.map V.str)), some (.int many), some (.ref 0), some (.int j), some (.int mx), some (.str (kindS bb)), some (.int n), o8, some (.lst ((List.range n).map fun t => V.str (ws.getD ((s + t) % 6) Str.empty))), some (.lst (xs.map wv))], H) := by
    rw [assign_slot (frz_list e5) (by simp)]
    simp only [List.set_cons_succ, List.set_cons_zero]
  rw [evalSs_cons s5]
  have hyl' : ys.length ≤ lid := by unfold lid; omega
  refine ⟨ys, some (.int n), o8, some (.lst ((List.range n).map fun t => V.str (ws.getD ((s + t) % 6) Str.empty))), some (.lst (xs.map wv)), ⟨by omega, by omega, fun x hx => (hxg x (hym x hx)).1, fun x hx => (hxg x (hym x hx)).2, hya⟩, ?_⟩
  rw [← hH]
  simp only [evalSs, evalS, evalE, evalEs, evalL, List.getElem?_cons_succ, List.getElem?_cons_zero, V.items, Option.bind_some, ey, Option.map_some, frzO, primV, tupleV, hyl', if_true, effV, appendV, List.length_map, hlp]
  simp [Stp.v, hyl', hlp]
theorem plan_turn (k : Nat) {c many : Int} (hc : intBits c ≤ 1048577) (h1 : 1 ≤ many) (h2 : many ≤ 12) {ws : List Str} (hw : Asc6 ws) {ps : List Stp} {j : Nat} (hj : (j : Int) < many) (hpl : ps.length ≤ 12) {o5 o6 o7 o8 o9 o10 : Option V} :
    ∃ p o5' o6' o7' o8' o9' o10', GoodStp many p ∧ evalSs ⟨FF (k + 2), 0⟩ planBody [some (.int c), some (.lst (ws.map V.str)), some (.int many), some (.ref 0), some (.int j), o5, o6, o7, o8, o9, o10] [.list (ps.map Stp.v)] =
      some (.next, [some (.int c), some (.lst (ws.map V.str)), some (.int many), some (.ref 0), some (.int j), o5', o6', o7', o8', o9', o10'], [.list ((ps ++ [p]).map Stp.v)]) := by
  generalize hH : ([.list (ps.map Stp.v)] : Hp) = H
  have hm := mix_range (c / 56) (20 * (j : Int))
  have s1 : evalS ⟨FF (k + 2), 0⟩ (.assign (.slot 5) (.call 8 [(.bin .FloorDiv (.var 0) (.const (V.int (56)))), (.bin .Mult (.const (V.int (20))) (.var 4))])) [some (.int c), some (.lst (ws.map V.str)), some (.int many), some (.ref 0), some (.int j), o5, o6, o7, o8, o9, o10] H
      = some (.next, [some (.int c), some (.lst (ws.map V.str)), some (.int many), some (.ref 0), some (.int j), some (.int (mix (c / 56) (20 * (j : Int)))), o6, o7, o8, o9, o10], H) := by
    have a1 := bin_fdiv c (d := 56) (by decide) (by decide)
    have a2 := bin_mul_small (x := 20) (y := (j : Int)) (by decide) (by decide) (by omega) (by omega)
    have a3 := mixed_spec (k + 1) (bits_div56 hc) (j := 20 * (j : Int)) (by omega) (by omega) H
    simp only [evalS, evalE, evalEs, List.getElem?_cons_succ, List.getElem?_cons_zero, binV, a1, a2, a3, Option.map_some, bindT, List.length_cons, List.length_nil]
    rfl
  unfold planBody
  rw [evalSs_cons s1]
  generalize hmx : mix (c / 56) (20 * (j : Int)) = mx at *
  have m0 := Int.emod_nonneg mx (b := 7) (by decide)
  have m1 := Int.emod_lt_of_pos mx (b := 7) (by decide)
  obtain ⟨kd, ekd, hkd⟩ := seven (q := (mx % 7).toNat) (by omega)
  have s2 : evalS ⟨FF (k + 2), 0⟩ (.assign (.slot 6) (.sub (.frz (.disp [(.const (V.str (Str.ofString "send"))), (.const (V.str (Str.ofString "get"))), (.const (V.str (Str.ofString "send"))), (.const (V.str (Str.ofString "get"))), (.const (V.str (Str.ofString "end"))), (.const (V.str (Str.ofString "send"))), (.const (V.str (Str.ofString "get")))])) (.bin .Mod (.var 5) (.const (V.int (7)))))) [some (.int c), some (.lst (ws.map V.str)), some (.int many), some (.ref 0), some (.int j), some (.int mx), o6, o7, o8, o9, o10] H
      = some (.next, [some (.int c), some (.lst (ws.map V.str)), some (.int many), some (.ref 0), some (.int j), some (.int mx), some (.str kd), o7, o8, o9, o10], H) := by
    have a1 := bin_mod mx (d := 7) (by decide)
    have a2 := sub_lst H (xs := [.str (Str.ofString "send"), .str (Str.ofString "get"), .str (Str.ofString "send"), .str (Str.ofString "get"), .str (Str.ofString "end"), .str (Str.ofString "send"), .str (Str.ofString "get")]) (i := mx % 7) m0 (by simpa using m1) (by simp)
    simp only [evalS, evalE, evalEs, evalL, List.getElem?_cons_succ, List.getElem?_cons_zero, binV, a1, a2, ekd, frzO, Option.map_some, bindT, List.length_cons, List.length_nil]
    rfl
  rw [evalSs_cons s2]
  have hlp : ps.length ≤ lid := by unfold lid; omega
  have a5 := bin_fdiv mx (d := 5) (by decide) (by decide)
  have a3 := bin_mod (mx / 5) (d := 3) (by decide)
  have econd : ∃ b v, evalE ⟨FF (k + 2), 0⟩ (.or [(.cmp (.var 6) [.Eq] [(.const (V.str (Str.ofString "end")))]), (.and [(.cmp (.var 4) [.Gt] [(.const (V.int (0)))]), (.cmp (.var 4) [.Eq] [(.bin .Sub (.var 2) (.const (V.int (1))))]), (.cmp (.bin .Mod (.bin .FloorDiv (.var 5) (.const (V.int (5)))) (.const (V.int (3)))) [.Gt] [(.const (V.int (0)))])])]) [some (.int c), some (.lst (ws.map V.str)), some (.int many), some (.ref 0), some (.int j), some (.int mx), some (.str kd), o7, o8, o9, o10] H = some (v, H) ∧ truthyV H v = some b ∧ (b = false → kd ≠ Str.ofString "end") := by
    by_cases q1 : kd = Str.ofString "end"
    · refine ⟨true, .bool true, ?_, rfl, by simp⟩
      subst q1
      simp [evalE, evalOr, evalCmp, cmpV, veq, truthyV]
    · have q1' : (kd == Str.ofString "end") = false := by simpa using q1
      by_cases q2 : (0 : Int) < j
      · by_cases q3 : (j : Int) = many - 1
        · refine ⟨decide (0 < mx / 5 % 3), .bool (decide (0 < mx / 5 % 3)), ?_, rfl, fun _ => q1⟩
          have q3' : ((j : Int) == many - 1) = true := by simpa using q3
          simp only [evalE, evalOr, evalAnd, evalCmp, cmpV, veq, truthyV, q1', q2, q3', binV, bin_sub, a5, a3, List.getElem?_cons_succ, List.getElem?_cons_zero, Option.map_some, decide_true]
        · refine ⟨false, .bool false, ?_, rfl, fun _ => q1⟩
          have q3' : ((j : Int) == many - 1) = false := by simpa using q3
          simp only [evalE, evalOr, evalAnd, evalCmp, cmpV, veq, truthyV, q1', q2, q3', binV, bin_sub, List.getElem?_cons_succ, List.getElem?_cons_zero, Option.map_some, decide_true]
      · refine ⟨false, .bool false, ?_, rfl, fun _ => q1⟩
        simp only [evalE, evalOr, evalAnd, evalCmp, cmpV, veq, truthyV, q1', q2, List.getElem?_cons_succ, List.getElem?_cons_zero, Option.map_some, decide_false]
  obtain ⟨b, cv, ec, et, hb⟩ := econd
  cases b with
  | true =>
    refine ⟨.fin, some (.int mx), some (.str kd), o7, o8, o9, o10, trivial, ?_⟩
    rw [evalSs, evalS, ec]
    simp only [et]
    rw [← hH]
    simp [evalSs, evalS, evalE, evalEs, effV, appendV, hlp, Stp.v]
  | false =>
    obtain ⟨bb, rfl⟩ : ∃ bb, kd = kindS bb := by
      rcases hkd with q | q
      · exact absurd q (hb rfl)
      · exact q
    obtain ⟨ys, o7', o8', o9', o10', gy, ev⟩ := plan_go k hc h1 h2 hw (mx := mx) (ps := ps) hj hpl (bb := bb) (o7 := o7) (o8 := o8) (o9 := o9) (o10 := o10)
    refine ⟨.go bb ys, some (.int mx), some (.str (kindS bb)), o7', o8', o9', o10', gy, ?_⟩
    rw [evalSs, evalS, ec]
    simp only [et]
    rw [← hH]
    unfold planElse at ev
    rw [ev]
    rfl
end Mine
end

section
set_option autoImplicit false
namespace Mine
open PySem

inductive PlanInv (c many : Int) (wv : List V) (xs : List V) (ρ : Loc) (H' : Hp) : Prop
  | mk (ps : List Stp) (j : Nat) (o4 o5 o6 o7 o8 o9 o10 : Option V) (h0 : xs = (List.range' j (many.toNat - j)).map (fun (t : Nat) => V.int (t : Int))) (hl : ps.length = j) (hj : j ≤ many.toNat) (hg : ∀ p ∈ ps, GoodStp many p)
    (hH : H' = [.list (ps.map Stp.v)]) (hρ : ρ = [some (.int c), some (.lst wv), some (.int many), some (.ref 0), o4, o5, o6, o7, o8, o9, o10]) : PlanInv c many wv xs ρ H'

theorem plan_step (k : Nat) {c many : Int} (hc : intBits c ≤ 1048577) (m1 : 1 ≤ many) (m2 : many ≤ 12) {ws : List Str} (hw : Asc6 ws) {x : V} {xs : List V} {ρ : Loc} {H' : Hp} (h : PlanInv c many (ws.map V.str) (x :: xs) ρ H') :
    ∃ ρ1 ρ' H'', bindT (.slot 4) x ρ = some ρ1 ∧ evalSs ⟨FF (k + 2), 0⟩ planBody ρ1 H' = some (.next, ρ', H'') ∧ PlanInv c many (ws.map V.str) xs ρ' H'' := by
  obtain ⟨ps, j, o4, o5, o6, o7, o8, o9, o10, ex, hpl, hj, hg, rfl, rfl⟩ := h
  have hj6 : j < many.toNat := by
    rcases Nat.lt_or_ge j many.toNat with h | h
    · exact h
    · rw [Nat.sub_eq_zero_of_le h] at ex; cases ex
  have e6 : many.toNat - j = (many.toNat - (j + 1)) + 1 := by omega
  rw [e6, List.range'_succ, List.map_cons, List.cons.injEq] at ex
  obtain ⟨rfl, rfl⟩ := ex
  obtain ⟨p, o5', o6', o7', o8', o9', o10', gp, ev⟩ := plan_turn k hc m1 m2 hw (ps := ps) (j := j) (by omega) (by omega) (o5 := o5) (o6 := o6) (o7 := o7) (o8 := o8) (o9 := o9) (o10 := o10)
  refine ⟨_, _, _, by simp [bindT], ev, ps ++ [p], j + 1, _, o5', o6', o7', o8', o9', o10', rfl, by simp [hpl], hj6, ?_, rfl, rfl⟩
  intro x hx
  rcases List.mem_append.mp hx with q | q
  · exact hg x q
  · rw [List.mem_singleton] at q; subst q; exact gp

theorem plan_spec (k : Nat) {c : Int} (hc : intBits c ≤ 1048577) {ws : List Str} (hw : Asc6 ws) : ∃ ps b, GoodPlan ps ∧ FF (k + 3) 10 [.int c, .lst (ws.map V.str)] [] = some (.lst (ps.map Stp.v), b, []) := by
  rw [FF, F]
  simp only [P02, tab02, fn__law_plan, List.getElem?_cons_succ, List.getElem?_cons_zero, List.length_cons, List.length_nil, if_true, List.map_cons, List.map_nil, List.cons_append, List.nil_append, List.replicate]
  have n0 := Int.emod_nonneg c (b := 7) (by decide)
  have n1 := Int.emod_lt_of_pos c (b := 7) (by decide)
  have p0 := Int.emod_nonneg c (b := 12) (by decide)
  have p1 := Int.emod_lt_of_pos c (b := 12) (by decide)
  have a1 := bin_mod c (d := 7) (by decide)
  have a2 := bin_fdiv c (d := 7) (by decide) (by decide)
  have a3 := bin_mod (c / 7) (d := 8) (by decide)
  have a4 := bin_mod c (d := 12) (by decide)
  rw [evalSs_cons (ρ' := [some (.int c), some (.lst (ws.map V.str)), some (.int (1 + c % 7)), none, none, none, none, none, none, none, none]) (H' := []) (by simp [evalS, evalE, binV, a1, bin_add, bindT])]
  have s2 : ∃ many : Int, 1 ≤ many ∧ many ≤ 12 ∧ evalS ⟨F P02 0 (k + 2), 0⟩ (.iff (.cmp (.bin .Mod (.bin .FloorDiv (.var 0) (.const (V.int (7)))) (.const (V.int (8)))) [.Eq] [(.const (V.int (1)))]) [(.assign (.slot 2) (.bin .Add (.const (V.int (1))) (.bin .Mod (.var 0) (.const (V.int (12))))))] []) [some (.int c), some (.lst (ws.map V.str)), some (.int (1 + c % 7)), none, none, none, none, none, none, none, none] []
      = some (.next, [some (.int c), some (.lst (ws.map V.str)), some (.int many), none, none, none, none, none, none, none, none], []) := by
    by_cases h : c / 7 % 8 = 1
    · have hb : (c / 7 % 8 == 1) = true := by simpa using h
      refine ⟨1 + c % 12, by omega, by omega, ?_⟩
      simp only [evalS, evalSs, evalE, evalCmp, cmpV, veq, binV, a1, a2, a3, a4, bin_add, hb, truthyV, bindT, List.getElem?_cons_zero, Option.map_some, List.length_cons, List.length_nil]
      rfl
    · have hb : (c / 7 % 8 == 1) = false := by simpa using h
      refine ⟨1 + c % 7, by omega, by omega, ?_⟩
      simp only [evalS, evalSs, evalE, evalCmp, cmpV, veq, binV, a1, a2, a3, hb, truthyV, List.getElem?_cons_zero, Option.map_some]
  obtain ⟨many, m1, m2, s2⟩ := s2
  rw [evalSs_cons s2]
  rw [evalSs_cons (ρ' := [some (.int c), some (.lst (ws.map V.str)), some (.int many), some (.ref 0), none, none, none, none, none, none, none]) (H' := [.list []]) (by simp [evalS, evalE, evalL, evalEs, bindT])]
  have hmn : ((many.toNat : Nat) : Int) = many := by omega
  obtain ⟨ρ', H', e, ps, j, o4, o5, o6, o7, o8, o9, o10, h0, hpl, hj, hg, rfl, rfl⟩ := for_inv (c := ⟨FF (k + 2), 0⟩) (t := .slot 4) (it := .range (.var 2)) (ρ := [some (.int c), some (.lst (ws.map V.str)), some (.int many), some (.ref 0), none, none, none, none, none, none, none]) (H := [.list []]) (xs := rangeV many) (G := []) (H1 := [.list []])
    (body := planBody)
    (by simp only [evalIt, evalE, List.getElem?_cons_succ, List.getElem?_cons_zero]; rw [if_pos (by omega)]) (PlanInv c many (ws.map V.str)) (fun x xs ρ H' h => ⟨by simp, plan_step k hc m1 m2 hw h⟩) (by simp)
    ⟨[], 0, none, none, none, none, none, none, none, by simp [rangeV, List.range_eq_range'], rfl, Nat.zero_le _, by simp, rfl, rfl⟩
  have hjm : j = many.toNat := by
    have := congrArg List.length h0
    simp at this
    omega
  refine ⟨ps, true, ⟨by omega, by omega, ?_⟩, ?_⟩
  · intro p hp
    have : ((ps.length : Nat) : Int) = many := by omega
    rw [this]; exact hg p hp
  · unfold planBody at e
    simp only [FF] at e
    rw [evalSs_cons e]
    simp only [evalSs, evalS, evalE, List.getElem?_cons_succ, List.getElem?_cons_zero]
    exact finish_new (H := []) (oks_stps _ _)

theorem bits_get {is : List Int} (h : ∀ i ∈ is, intBits i ≤ 1048576) (k : Nat) : intBits (is.getD k 0) ≤ 1048576 := by
  rw [List.getD_eq_getElem?_getD]
  cases e : is[k]? with
  | none => simp [intBits]
  | some x => exact h x (List.mem_of_getElem? e)
end Mine
end

set_option autoImplicit false
namespace Mine
open PySem PySem.W PyProof.Rows
noncomputable def q02 : Program := { PySem.Challenge.pw_uf010020_02 with main := { PySem.Challenge.pw_uf010020_02.main with body := ([1, 2, 4, 5, 6, 7, 8, 9, 10, 11, 12, 13, 14, 16, 17, 18, 19, 20, 21, 22, 23] : List Nat).filterMap fun i => PySem.Challenge.pw_uf010020_02.main.body[i]? } }
noncomputable def bx02 (p : Pos) : Bool := ([(47, 11), (58, 16), (60, 19), (76, 21), (92, 17), (109, 18), (110, 17)] : List (Nat × Nat)).contains (p.line, p.col)
noncomputable def gc02 : List (Str × V) := [("LETTERS", .str "abcdefghijklmnopqrstuvwxyz"), ("MOST_SIGNS", .int 8), ("MOST_STOPS", .int 12), ("MOST_WAYS", .int 6)]
set_option maxRecDepth 100000 in
theorem names02 : namesOk q02 (looseW q02 []) = true := by decide +kernel
set_option maxRecDepth 100000 in
theorem consts02 : constsOk q02 gc02 = true := by decide +kernel
set_option maxRecDepth 100000 in
theorem look02 : (fnsOf q02).lookup (Str.ofString "law") = some 14 := by decide +kernel
set_option maxRecDepth 100000 in
theorem defs02 : defsF q02 ⟨fnsOf q02, gc02, bx02⟩ 200 = tab02.map some := by kernel_rfl

theorem clean02 : CleanLaw P02 0 14 := by
  intro is hl hb
  have b0 := bits_get hb 0
  have b1 := bits_get hb 1
  obtain ⟨ws, hw, e9⟩ := words_spec 297 (c := is.getD 0 0) (by omega)
  obtain ⟨ps, b10, hp, e10⟩ := plan_spec 296 (c := is.getD 1 0) (by omega) hw
  exact ⟨_, law_spec 290 (cell_spec 298 is hl 1 (by decide)) (cell_spec 298 is hl 0 (by decide)) e9 e10 hp⟩
end Mine
open PySem PySem.W PyProof.Rows in
set_option Elab.async false in
set_option maxRecDepth 100000 in
set_option maxHeartbeats 8000000 in
theorem PySem.Challenge.cw_uf010020_02_holds : PySem.Challenge.rw_uf010020_02.Holds := by
  w_on
  o_law
  refine holds_open (q := Mine.q02) (loose := []) (Xt := fun s => xlAt Mine.q02 [] s && recOk (RowW.records (OpenRow.toRowW PySem.Challenge.rw_uf010020_02.row)) s) (XP := XL Mine.q02 []) (Yf := Hook.obs Hook.none) (Ya := Hook.val Hook.none) (YP := Hook.says Hook.none) (N := 1918) ?hl (Hook.of Hook.none) (Hook.keeps Hook.none) (fun s e => xl_of s (Bool.and_eq_true_iff.mp e).1) XL.keeps (by rfl) (by rfl) (by rfl) (fun s e => recFacts_of (Bool.and_eq_true_iff.mp e).2) (by rfl) (by first | assumption | decide +kernel) (by decide +kernel) ⟨rfl, rfl, rfl, rfl, rfl, by decide +kernel⟩ ?hw ?hc
  case hl =>
    intro w
    kernel_rfl
  case hw => w_witness2
  case hc => exact Mine.walk_law Mine.names02 Mine.consts02 (Mine.defsOk_of Mine.defs02) Mine.look02 Mine.clean02

import PyProof.Rows.All
import PyProof.P3Statements
import PySem.Sem
import PySem.Builtin.Str.Common
import PyProof.StrLaws
import PyProof.Defs
import PyProof.Rows.Top
import PyProof.CompMap
import PyProof.Cells
import PyProof.TupleIter
import PyProof.ListOps
import PyProof.TupleOps
import PyProof.Rows.Tup
import PyProof.Rows.PlainObj
import PyProof.RaisesMany
import PyProof.RulesTry
import PyProof.Walks
import PyProof.WalksMore
import PyProof.StrWalks
import PyProof.RangeFor
import PyProof.Rows.StrRules
import PyProof.Rows.RuleB_floordiv
import PyProof.Rows.RuleB_mod
import PyProof.Rows.RuleB_mul
import PyProof.Rows.RuleB_sub
import PyProof.Rows.IntRules
import PyProof.Rows.RuleC_int
import PyProof.Rows.RuleU_int
import PyProof.Rows.StrTemp
import PyProof.PureInt
import PyProof.Truth
import PyProof.ListTruth
import PyProof.CallRoads
import PyProof.CallType
import PyProof.EqLayable
import PyProof.P3In
import PyProof.Rows.Nodes
import PyProof.Rows.RuleB_pow
import PyProof.NoPylong
import PyProof.StrBlock2
import PyProof.ListMulRoad
import PyProof.AutoListH
import PyProof.ListIndexNeg
import PyProof.SliceMore
import PyProof.SliceStr2
import PyProof.Rows.ListMul
import PyProof.Rows.StrPins
import PyProof.IsInstanceH
import PyProof.IsiSeqPairs
import PyProof.IsiPairs
import PyProof.Rules3
import PyProof.Rules2
import PyProof.DictRoadsH
import PyProof.DictKinds
import PyProof.ExcClass2
import PyProof.P3Eq
import PyProof.EqAt
import PyProof.SeqRoads
import PyProof.FactsAll.list_1
import PyProof.Rows.Chain
import PyProof.NeData
import PyProof.IsiNone
import PyProof.DefCall
import PyProof.Rows.Range3
import PyProof.ListNew
import PyProof.ReprLoop
import PyProof.FactsAll.list
import PyProof.FactsAll.list_2
import PyProof.Draws
import PyProof.EnumMake
import PyProof.ZipIter
import PyProof.Conv_int
import PyProof.Conv_int_bool
import PyProof.CallStr
import PyProof.TupleOfSeq
import KE.IntTextLaws
import PyProof.DictIter
import PyProof.DictWalks
import PyProof.DictDisplay
import PyProof.ListCopy
import PyProof.ListStr
import PyProof.ListRange
import PyProof.Rows.StrJoin2
import PyProof.SliceSyntax
import PyProof.StrBlockL
import PyProof.Rows.SumAny
import PyProof.WalkInts
import PyProof.SeqI3
import PyProof.Rows.CallKwBuiltin
import PyProof.MinMaxWalk
import PyProof.CompFree
import PyProof.Comp
import PyProof.WalksPairs
import PyProof.Rows.TupIter
import PyProof.Rows.TopObj
import PyProof.Rows.AttrNodeAny
import PyProof.ExcArgsOwn
import PyProof.ExcAttrAll.ValueError
import PyProof.IsInstance
import PyProof.Raises
import PyProof.RulesAssignMore
import PyProof.Rows.TupAssign
import PyProof.ForAny
import PyProof.ExcBaseAll.ValueError
import PyProof.NsDelKeeps
import Wide.All
import PyProof.ExcQuiet
import Open.Line
import PySem.Challenge.RW_uf020039_09
set_option Elab.async false
set_option linter.all false
section
set_option autoImplicit false
namespace Mine
open PySem

inductive V where
  | none
  | bool (b : Bool)
  | int (i : Int)
  | str (s : Str)
  | tup (vs : List V)
  | lst (vs : List V)
  | ref (a : Nat)
  | inst (c : Nat) (ns : List String) (vs : List V)
  | iref (c : Nat) (ns : List String) (a : Nat)
  | exc (c : String)
  | dct

/-- what a key is made of -/
inductive At where
  | i (n : Int)
  | s (x : Str)
deriving DecidableEq
noncomputable abbrev HFn := List At → Int
inductive AO where
  | list (vs : List V)
  | dict (kvs : List (List At × V))
  | inst (c : Nat) (ns : List String) (vs : List V)

noncomputable abbrev AH := Nat → Option AO
noncomputable def AH.upd (H : AH) (a : Nat) (o : AO) : AH := fun b => if b = a then some o else H b

structure St where
  ρ : List (Option V)
  H : AH
  B : AH

set_option genSizeOf false
set_option genInjectivity false
inductive Bop where
  | add | sub | mul | fdiv | mod | pow
inductive Cop where
  | eq | ne | lt | le | gt | ge | is | isnot | isin | notin
inductive Ty where
  | int | bool | str | tuple | list | own (c : String) | ValueError
inductive Tg where
  | var (i : Nat)
  | tup (is : List Nat)

mutual
inductive E where
  | none
  | bool (b : Bool)
  | int (i : Int)
  | str (s : Str)
  | var (i : Nat)
  | glob (x : String)
  | bin (op : Bop) (a b : E)
  | neg (a : E)
  | not (a : E)
  | and (a b : E)
  | or (a b : E)
  | ite (t a b : E)
  | list (es : Es)
  | tup (es : Es)
  | cmp (a : E) (c : Ch)
  | sub (a i : E)
  | slice (a lo hi : E)
  | call (f : String) (args : Es)
  | isinst (a : E) (t : Ty)
  | len (a : E)
  | sum (a : E)
  | max2 (a b : E)
  | min2 (a b : E)
  | maxl (a : E)
  | maxd (a d : E)
  | strOf (a : E)
  | intOf (a : E)
  | tupOf (a : E)
  | listOf (it : It)
  | join (s a : E)
  | get (d k v : E)
  | dict0
  | attr (a : E) (n : String)
  | new (c : String) (args : Es)
  | comp (elt : E) (t : Tg) (it : It)
  | compIf (elt : E) (t : Tg) (it : It) (c : E)
  | isexc (a : E) (t : String)
  | only (a : E)
inductive Es where
  | nil
  | cons (e : E) (es : Es)
inductive Ch where
  | one (op : Cop) (e : E)
  | more (op : Cop) (e : E) (c : Ch)
inductive It where
  | seq (e : E)
  | rev (e : E)
  | range1 (n : E)
  | range2 (a b : E)
  | range3 (a b c : E)
  | enum (e : E)
  | zip (a b : E)
  | keys (e : E)
end

mutual
inductive A where
  | pure (e : E)
  | thaw (e : E)
  | list (as : As)
  | dict
  | new (c : String) (args : Es)
  | callO (f : String) (args : Es)
inductive As where
  | nil
  | cons (a : A) (as : As)
end

mutual
inductive S where
  | expr (e : E)
  | assign (t : Tg) (e : E)
  | own (i : Nat) (a : A)
  | append (e : E) (a : A)
  | pop (t : Tg) (e : E)
  | setitem (e k v : E)
  | setkey (e k v : E)
  | setattr (e : E) (n : String) (v : E)
  | setlast (e v : E)
  | ite (t : E) (a b : Bl)
  | while (t : E) (b : Bl)
  | for (t : Tg) (it : It) (b : Bl)
  | ret (e : E)
  | retO (e : E)
  | raise (c : String) (msg : E)
  | rz (c : String) (msg : E)
  | tryEx (e : E) (c : String) (x : Option Nat) (h : Bl)
inductive Bl where
  | nil
  | cons (s : S) (b : Bl)
end

structure Fn where
  np : Nat
  vars : List String
  nv : Nat
  body : Bl

set_option genSizeOf true
set_option genInjectivity true
/-! values -/
noncomputable def signsOf (s : Str) : List V := s.cps.toList.map fun c => V.str ⟨#[c]⟩
noncomputable def seqL (H : AH) : V → Option (List V)
  | .lst vs => some vs
  | .ref a => match H a with
    | some (.list vs) => some vs
    | _ => Option.none
  | _ => Option.none
noncomputable def atV : At → V
  | .i n => .int n
  | .s x => .str x
noncomputable def keyV (ks : List At) : V := .tup (ks.map atV)
noncomputable def itemsV (H : AH) : V → Option (List V)
  | .lst vs => some vs
  | .tup vs => some vs
  | .str s => some (signsOf s)
  | .ref a => match H a with
    | some (.list vs) => some vs
    | _ => Option.none
  | _ => Option.none
/-- the tracked thing that a walk over a value reads -/
noncomputable def depsV : V → List Nat
  | .ref a => [a]
  | _ => []
noncomputable def sizeV (H : AH) : V → Option Nat
  | .lst vs => some vs.length
  | .tup vs => some vs.length
  | .str s => some s.length
  | .ref a => match H a with
    | some (.list vs) => some vs.length
    | _ => Option.none
  | _ => Option.none
noncomputable def truthV (_H : AH) : V → Option Bool
  | .bool b => some b
  | _ => Option.none
noncomputable def resV (H : AH) : V → V
  | .ref a => match H a with
    | some (.list vs) => .lst vs
    | _ => .ref a
  | v => v

mutual
noncomputable def toD : V → Option PyData
  | .none => some .none
  | .bool b => some (.bool b)
  | .int i => some (.int i)
  | .str s => some (.str s)
  | .tup vs => (toDs vs).map .tuple
  | .lst vs => (toDs vs).map .list
  | .ref _ => Option.none
  | .inst _ _ _ => Option.none
  | .iref _ _ _ => Option.none
  | .exc _ => Option.none
  | .dct => Option.none
noncomputable def toDs : List V → Option (List PyData)
  | [] => some []
  | v :: vs => match toD v, toDs vs with
    | some d, some ds => some (d :: ds)
    | _, _ => Option.none
end

noncomputable def eqV (H : AH) (a b : V) (Q : Bool → Prop) : Prop :=
  match toD (resV H a), toD (resV H b) with
  | some x, some y => x.depth ≤ 64 ∧ Q (PyData.eqv x y)
  | _, _ => False

/-- a text holds another one -/
noncomputable def hasSub (s t : Str) : Bool := !(Builtin.Str.occurrences s t 0 s.length 1).isEmpty

noncomputable def atOf : V → Option At
  | .int n => some (.i n)
  | .str x => some (.s x)
  | _ => Option.none
noncomputable def atsOf : List V → Option (List At)
  | [] => some []
  | v :: vs => (match atOf v, atsOf vs with
    | some a, some as => some (a :: as)
    | _, _ => Option.none)
/-- a pair, as a key -/
noncomputable def keyP : V → (List At → Prop) → Prop
  | .tup vs, P => (match atsOf vs with
    | some ks => P ks
    | Option.none => False)
  | _, _ => False
noncomputable def dlook (k : List At) : List (List At × V) → Option V
  | [] => Option.none
  | (a, v) :: r => if a = k then some v else dlook k r
noncomputable def dput (k : List At) (v : V) : List (List At × V) → List (List At × V)
  | [] => [(k, v)]
  | (a, w) :: r => if a = k then (a, v) :: r else (a, w) :: dput k v r
noncomputable def dictP (H : AH) (u : V) (P : Nat → List (List At × V) → Prop) : Prop := match u with
  | .ref a => (match H a with
    | some (.dict kvs) => P a kvs
    | _ => False)
  | _ => False

/-- whole numbers, as arguments of range -/
noncomputable def intP : V → (Int → Prop) → Prop
  | .int i, P => P i
  | _, _ => False
noncomputable def smallI (i : Int) : Prop := -(2 ^ 62) ≤ i ∧ i < 2 ^ 62
noncomputable def strP : V → (Str → Prop) → Prop
  | .str s, P => P s
  | _, _ => False
noncomputable def noneP : V → Prop → Prop
  | .none, P => P
  | _, _ => False
noncomputable def isNone : V → Bool
  | .none => true
  | _ => false
noncomputable def seqP (H : AH) (v : V) (P : List V → Prop) : Prop := match seqL H v with
  | some x => P x
  | Option.none => False
/-- a list or a tuple -/
noncomputable def rowL (H : AH) : V → Option (List V)
  | .lst vs => some vs
  | .tup vs => some vs
  | .ref a => match H a with
    | some (.list vs) => some vs
    | _ => Option.none
  | _ => Option.none
noncomputable def rowP (H : AH) (v : V) (P : List V → Prop) : Prop := match rowL H v with
  | some x => P x
  | Option.none => False
noncomputable def inV (H : AH) (x c : V) (Q : Bool → Prop) : Prop := match c with
  | .str s => strP x fun t => Q (hasSub s t)
  | c => dictP H c fun _ kvs => keyP x fun ks => Q (dlook ks kvs).isSome
noncomputable def cmpV (H : AH) (op : Cop) (a b : V) (Q : Bool → Prop) : Prop := match op with
  | .eq => eqV H a b Q
  | .ne => eqV H a b fun r => Q (!r)
  | .lt => intP a fun i => intP b fun j => Q (decide (i < j))
  | .le => intP a fun i => intP b fun j => Q (decide (i ≤ j))
  | .gt => intP a fun i => intP b fun j => Q (decide (i > j))
  | .ge => intP a fun i => intP b fun j => Q (decide (i ≥ j))
  | .is => noneP b (Q (isNone a))
  | .isnot => noneP b (Q (!isNone a))
  | .isin => inV H a b Q
  | .notin => inV H a b fun r => Q (!r)

noncomputable def repL {α : Type} (n : Nat) (xs : List α) : List α := (List.replicate n xs).flatten

noncomputable def addV (H : AH) (a b : V) (Q : V → Prop) : Prop := match a with
  | .int i => intP b fun j => Q (.int (i + j))
  | .str s => strP b fun t => s.length + t.length ≤ sizeLine ∧ Q (.str (s ++ t))
  | a => seqP H a fun x => seqP H b fun y => x.length + y.length ≤ sizeLine ∧ Q (.lst (x ++ y))
noncomputable def mulV (a b : V) (Q : V → Prop) : Prop := match a with
  | .int i => intP b fun j => (i.natAbs < 2 ^ 62 ∨ j.natAbs < 2 ^ 62) ∧ Q (.int (i * j))
  | .lst vs => intP b fun n => -(2 ^ 62) ≤ n ∧ n < 2 ^ 62 ∧ vs.length * n.toNat ≤ sizeLine ∧ Q (.lst (repL n.toNat vs))
  | .str s => intP b fun n => 0 ≤ n ∧ n < 2 ^ 30 ∧ s.length * n.toNat ≤ sizeLine ∧ Q (.str ⟨(repL n.toNat s.cps.toList).toArray⟩)
  | _ => False
noncomputable def binV (H : AH) (op : Bop) (a b : V) (Q : V → Prop) : Prop := match op with
  | .add => addV H a b Q
  | .sub => intP a fun i => intP b fun j => Q (.int (i - j))
  | .mul => mulV a b Q
  | .fdiv => intP a fun i => intP b fun j => j ≠ 0 ∧ Q (.int (i.fdiv j))
  | .mod => intP a fun i => intP b fun j => j ≠ 0 ∧ Q (.int (i.fmod j))
  | .pow => intP a fun i => intP b fun j => i = 10 ∧ (j = 30 ∨ j = 40) ∧ Q (.int (10 ^ j.toNat))

/-- a place in a row of n, from behind if it is negative -/
noncomputable def idx (n : Nat) (i : Int) : Option Nat :=
  if 0 ≤ i then (if i < n then some i.toNat else Option.none) else (if 0 ≤ i + n then some (i + n).toNat else Option.none)

noncomputable def subV (H : AH) : V → V → (V → Prop) → Prop
  | .ref a, k, Q => (match H a with
    | some (.dict kvs) => keyP k fun ks => (match dlook ks kvs with
      | some v => Q v
      | Option.none => False)
    | some (.list vs) => (match k with
      | .int i => (match idx vs.length i with
        | some n => (match vs[n]? with
          | some v => Q v
          | Option.none => False)
        | Option.none => False)
      | _ => False)
    | _ => False)
  | .str s, .int i, Q => (match idx s.length i with
    | some n => (match s.cps.toList[n]? with
      | some c => Q (.str ⟨#[c]⟩)
      | Option.none => False)
    | Option.none => False)
  | .lst vs, .int i, Q => (match idx vs.length i with
    | some n => (match vs[n]? with
      | some v => Q v
      | Option.none => False)
    | Option.none => False)
  | .tup vs, .int i, Q => (match idx vs.length i with
    | some n => (match vs[n]? with
      | some v => Q v
      | Option.none => False)
    | Option.none => False)
  | _, _, _ => False

/-- where a cut begins or ends -/
noncomputable def clip (n : Nat) (i : Int) : Nat := (max 0 (min (if i < 0 then i + n else i) n)).toNat
noncomputable def bnd (n d : Nat) : V → Option Nat
  | .none => some d
  | .int i => some (clip n i)
  | _ => Option.none
noncomputable def cutL {α : Type} (xs : List α) (lo hi : Nat) : List α := (xs.drop lo).take (hi - lo)

noncomputable def sliceV (H : AH) (a lo hi : V) (Q : V → Prop) : Prop :=
  match a with
  | .str s => (match bnd s.length 0 lo, bnd s.length s.length hi with
    | some l, some h => Q (.str ⟨(cutL s.cps.toList l h).toArray⟩)
    | _, _ => False)
  | v => (match seqL H v with
    | some vs => (match bnd vs.length 0 lo, bnd vs.length vs.length hi with
      | some l, some h => Q (.lst (cutL vs l h))
      | _, _ => False)
    | Option.none => False)

noncomputable def isV : Ty → V → Option Bool
  | _, .ref _ => Option.none
  | _, .inst _ _ _ => Option.none
  | _, .iref _ _ _ => Option.none
  | _, .exc _ => Option.none
  | .int, .int _ => some true
  | .int, .bool _ => some true
  | .int, _ => some false
  | .bool, .bool _ => some true
  | .bool, _ => some false
  | .str, .str _ => some true
  | .str, _ => some false
  | .tuple, .tup _ => some true
  | .tuple, _ => some false
  | .list, .lst _ => some true
  | .list, _ => some false
  | _, _ => Option.none
noncomputable def isT (H : AH) (t : Ty) (v : V) : Option Bool := match v with
  | .ref a => (match H a with
    | some (.list _) => isV t (.lst [])
    | _ => Option.none)
  | v => isV t v

noncomputable def intsOf : List V → Option (List Int)
  | [] => some []
  | .int i :: r => (intsOf r).map (i :: ·)
  | _ => Option.none
noncomputable def strsOf : List V → Option (List Str)
  | [] => some []
  | .str s :: r => (strsOf r).map (s :: ·)
  | _ => Option.none
noncomputable def lenAll : List Str → Nat
  | [] => 0
  | s :: r => s.length + lenAll r
noncomputable def maxI : Int → List Int → Int
  | m, [] => m
  | m, x :: r => maxI (if x > m then x else m) r

noncomputable def digitsVal (l : List Nat) : Nat := l.foldl (fun n c => n * 10 + (c - 48)) 0
noncomputable def allDigits (l : List Nat) : Bool := l.all fun c => 48 ≤ c && c ≤ 57

/-- int(..) of a truth value or of figures -/
noncomputable def intOfV : V → (V → Prop) → Prop
  | .bool b, Q => Q (.int (if b then 1 else 0))
  | .str s, Q => allDigits s.cps.toList = true ∧ 0 < s.length ∧ s.length ≤ 100 ∧ Q (.int (digitsVal s.cps.toList))
  | _, _ => False
noncomputable def upL (a b : Int) : List V := (List.range (b - a).toNat).map fun (k : Nat) => .int (a + k)
noncomputable def downL (a b : Int) : List V := (List.range (a - b).toNat).map fun (k : Nat) => .int (a - k)

noncomputable def enumL (n : Nat) : List V → List V
  | [] => []
  | v :: vs => .tup [.int n, v] :: enumL (n + 1) vs
noncomputable def zipL : List V → List V → List V
  | x :: xs, y :: ys => .tup [x, y] :: zipL xs ys
  | _, _ => []

noncomputable def putV (i : Nat) (v : V) (ρ : List (Option V)) : Option (List (Option V)) := if i < ρ.length then some (ρ.set i (some v)) else Option.none
noncomputable def setAll : List Nat → List V → List (Option V) → Option (List (Option V))
  | [], [], ρ => some ρ
  | i :: is, v :: vs, ρ => match putV i v ρ with
    | some ρ' => setAll is vs ρ'
    | Option.none => Option.none
  | _, _, _ => Option.none
noncomputable def bindT : Tg → V → List (Option V) → Option (List (Option V))
  | .var i, v, ρ => putV i v ρ
  | .tup is, .tup vs, ρ => setAll is vs ρ
  | _, _, _ => Option.none

noncomputable def rng1 : List V → (Int → Prop) → Prop
  | [u], P => intP u fun i => smallI i ∧ P i
  | _, _ => False
noncomputable def rng2 : List V → (Int → Int → Prop) → Prop
  | [u, v], P => intP u fun i => intP v fun j => smallI i ∧ smallI j ∧ P i j
  | _, _ => False
noncomputable def rng3 : List V → (Int → Int → Int → Prop) → Prop
  | [u, v, w], P => intP u fun i => intP v fun j => intP w fun k => smallI i ∧ smallI j ∧ P i j k
  | _, _ => False

noncomputable def intsP (vs : List V) (P : List Int → Prop) : Prop := match intsOf vs with
  | some is => P is
  | Option.none => False
noncomputable def sum1 (H : AH) : List V → (Int → Prop) → Prop
  | [u], P => seqP H u fun vs => intsP vs fun is => P is.sum
  | _, _ => False
noncomputable def max1 (H : AH) : List V → (Int → Prop) → Prop
  | [u], P => seqP H u fun vs => intsP vs fun is => is ≠ [] ∧ P (maxI (is.headD 0) is.tail)
  | _, _ => False
noncomputable def maxD (H : AH) (u v : V) (Q : V → Prop) : Prop := seqP H u fun vs => intsP vs fun is => Q (match is with
  | [] => v
  | i :: r => .int (maxI i r))
noncomputable def int2 : List V → (Int → Int → Prop) → Prop
  | [u, v], P => intP u fun i => intP v fun j => P i j
  | _, _ => False

noncomputable def setV (H B : AH) (u kk : V) (P : Nat → List V → Nat → Prop) : Prop := match u with
  | .ref ad => intP kk fun i => B ad = Option.none ∧ 0 ≤ i ∧ ∃ vs, H ad = some (.list vs) ∧ i < vs.length ∧ P ad vs i.toNat
  | _ => False

noncomputable def mapO (f : V → Option V) : List V → Option (List V)
  | [] => some []
  | v :: vs => match f v, mapO f vs with
    | some x, some xs => some (x :: xs)
    | _, _ => Option.none
noncomputable def frz (H B : AH) : Nat → V → Option V
  | 0, _ => Option.none
  | n + 1, v => match v with
    | .ref a => (match B a with
      | some _ => some (.ref a)
      | Option.none => (match H a with
        | some (.list vs) => (mapO (frz H B n) vs).map .lst
        | _ => Option.none))
    | .iref c ns a => (match B a with
      | some _ => some (.iref c ns a)
      | Option.none => (match H a with
        | some (.inst _ ns' vs) => if ns' = ns then (mapO (frz H B n) vs).map (.inst c ns) else Option.none
        | _ => Option.none))
    | .tup vs => (mapO (frz H B n) vs).map .tup
    | .lst vs => (mapO (frz H B n) vs).map .lst
    | .inst c ns vs => (mapO (frz H B n) vs).map (.inst c ns)
    | v => some v
noncomputable def frzs (H B : AH) (n : Nat) (vs : List V) : Option (List V) := mapO (frz H B n) vs

noncomputable abbrev RunSem := String → List V → AH → (V → AH → Prop) → (String → Prop) → Prop
/-- what a list that a call has made holds, as its caller sees it -/
noncomputable def giveV (H' H : AH) (a : Nat) (w : V) : Option V := match w with
  | .ref b => if b = a then Option.none else (match H b with
    | some _ => Option.none
    | Option.none => (match H' b with
      | some (.list us) => some (.lst us)
      | _ => Option.none))
  | w => some w
noncomputable def giveP (H' H : AH) (v : V) (Q : List V → Prop) : Prop := match v with
  | .ref a => (match H a with
    | some _ => False
    | Option.none => (match H' a with
      | some (.list ws) => (match mapO (giveV H' H a) ws with
        | some ws' => Q ws'
        | Option.none => False)
      | _ => False))
  | _ => False
inductive Ini where
  | arg (i : Nat)
  | val (v : V)
structure Cx where
  run : RunSem
  glob : String → Option V
  cls : String → Option (Nat × Nat × List (String × Ini))
  has : Nat → List String → Bool

noncomputable def Cx.call (C : Cx) (f : String) (vs : List V) (H : AH) (Q : V → Prop) (X : String → Prop) : Prop := C.run f vs H (fun v H' => match frz H' H 8 v with
  | some v' => Q v'
  | Option.none => False) X
noncomputable def Cx.callO (C : Cx) (f : String) (vs : List V) (H : AH) (Q : List V → Prop) (X : String → Prop) : Prop := C.run f vs H (fun v H' => giveP H' H v Q) X
noncomputable def iniV (args : List V) : Ini → V
  | .arg i => (args[i]?).getD .none
  | .val v => v
noncomputable def attrL (n : String) : List String → List V → Option V
  | m :: ns, v :: vs => if m = n then some v else attrL n ns vs
  | _, _ => Option.none
noncomputable def setAttrL (n : String) (w : V) : List String → List V → Option (List V)
  | m :: ns, v :: vs => if m = n then some (w :: vs) else (setAttrL n w ns vs).map (v :: ·)
  | _, _ => Option.none

/-- one class of exceptions below another -/
noncomputable def allX : List String := ["BookError", "NoBook", "NoText", "NoPlace", "NoWord"]
noncomputable def subX (c t : String) : Bool := allX.contains c && (decide (c = t) || decide (t = "BookError") || decide (t = "ValueError"))
noncomputable def compL (f : V → (Option V → Prop) → Prop) : List V → (List V → Prop) → Prop
  | [], Q => Q []
  | x :: xs, Q => f x fun r => compL f xs fun ys => Q (match r with
    | some y => y :: ys
    | Option.none => ys)

mutual
noncomputable def WE (C : Cx) : E → St → (V → Prop) → (String → Prop) → Prop
  | .none, _, Q, _ => Q .none
  | .bool b, _, Q, _ => Q (.bool b)
  | .int i, _, Q, _ => Q (.int i)
  | .str s, _, Q, _ => Q (.str s)
  | .var i, st, Q, _ => (match st.ρ[i]? with
    | some (some v) => Q v
    | _ => False)
  | .glob x, _, Q, _ => (match C.glob x with
    | some v => Q v
    | Option.none => False)
  | .bin op a b, st, Q, X => WE C a st (fun u => WE C b st (fun v => binV st.H op u v Q) X) X
  | .neg a, st, Q, X => WE C a st (fun u => match u with
    | .int i => Q (.int (-i))
    | _ => False) X
  | .not a, st, Q, X => WE C a st (fun u => match truthV st.H u with
    | some b => Q (.bool (!b))
    | Option.none => False) X
  | .and a b, st, Q, X => WE C a st (fun u => match truthV st.H u with
    | some true => WE C b st Q X
    | some false => Q u
    | Option.none => False) X
  | .or a b, st, Q, X => WE C a st (fun u => match truthV st.H u with
    | some true => Q u
    | some false => WE C b st Q X
    | Option.none => False) X
  | .ite t a b, st, Q, X => WE C t st (fun u => match truthV st.H u with
    | some true => WE C a st Q X
    | some false => WE C b st Q X
    | Option.none => False) X
  | .list es, st, Q, X => WEs C es st (fun vs => vs.length ≤ sizeLine ∧ Q (.lst vs)) X
  | .tup es, st, Q, X => WEs C es st (fun vs => vs.length ≤ sizeLine ∧ Q (.tup vs)) X
  | .cmp a c, st, Q, X => WE C a st (fun u => WCh C c st u (fun b => Q (.bool b)) X) X
  | .sub a i, st, Q, X => WE C a st (fun u => WE C i st (fun k => subV st.H u k Q) X) X
  | .slice a lo hi, st, Q, X => WE C a st (fun u => WE C lo st (fun l => WE C hi st (fun h => sliceV st.H u l h Q) X) X) X
  | .call f args, st, Q, X => WEs C args st (fun vs => C.call f vs st.H Q X) X
  | .isinst a t, st, Q, X => WE C a st (fun u => match isT st.H t u with
    | some b => Q (.bool b)
    | Option.none => False) X
  | .len a, st, Q, X => WE C a st (fun u => match sizeV st.H u with
    | some n => Q (.int n)
    | Option.none => False) X
  | .sum a, st, Q, X => WE C a st (fun u => sum1 st.H [u] fun n => Q (.int n)) X
  | .max2 a b, st, Q, X => WE C a st (fun u => WE C b st (fun v => int2 [u, v] fun i j => Q (.int (if j > i then j else i))) X) X
  | .min2 a b, st, Q, X => WE C a st (fun u => WE C b st (fun v => int2 [u, v] fun i j => Q (.int (if j < i then j else i))) X) X
  | .maxl a, st, Q, X => WE C a st (fun u => max1 st.H [u] fun n => Q (.int n)) X
  | .maxd a d, st, Q, X => WE C a st (fun u => WE C d st (fun v => maxD st.H u v Q) X) X
  | .strOf a, st, Q, X => WE C a st (fun u => intP u fun i => i.natAbs < 2 ^ 62 ∧ Q (.str (Str.ofString (toString i)))) X
  | .intOf a, st, Q, X => WE C a st (fun u => intOfV u Q) X
  | .tupOf a, st, Q, X => WE C a st (fun u => seqP st.H u fun vs => Q (.tup vs)) X
  | .listOf it, st, Q, X => WI C it st (fun vs _ => vs.length ≤ sizeLine ∧ Q (.lst vs)) X
  | .join s a, st, Q, X => WE C s st (fun u => WE C a st (fun v => match u, (seqL st.H v).bind strsOf with
    | .str s, some ss => lenAll ss + s.length * ss.length ≤ sizeLine ∧ Q (.str (Str.join s ss))
    | _, _ => False) X) X
  | .get d k v, st, Q, X => WE C d st (fun u => dictP st.H u fun _ kvs => WE C k st (fun kk => WE C v st (fun w => keyP kk fun ks => Q ((dlook ks kvs).getD w)) X) X) X
  | .dict0, _, Q, _ => Q .dct
  | .attr a n, st, Q, X => WE C a st (fun u => match u with
    | .inst c ns vs => C.has c ns = true ∧ (match attrL n ns vs with
      | some v => Q v
      | Option.none => False)
    | .iref c ns ad => (match st.H ad with
      | some (.inst c' ns' vs) => C.has c ns = true ∧ c' = c ∧ ns' = ns ∧ (match attrL n ns vs with
        | some v => Q v
        | Option.none => False)
      | _ => False)
    | _ => False) X
  | .new c args, st, Q, X => (match C.cls c with
    | some (k, n, fs) => WEs C args st (fun vs => vs.length = n ∧ Q (.inst k (fs.map (·.1)) (fs.map fun f => iniV vs f.2))) X
    | Option.none => False)
  | .comp elt t it, st, Q, X => WI C it st (fun xs _ => xs.length ≤ sizeLine ∧
      compL (fun x k => match bindT t x st.ρ with
        | some ρ' => WE C elt { st with ρ := ρ' } (fun y => k (some y)) (fun _ => False)
        | Option.none => False) xs (fun ys => Q (.lst ys))) X
  | .compIf elt t it c, st, Q, X => WI C it st (fun xs _ => xs.length ≤ sizeLine ∧
      compL (fun x k => match bindT t x st.ρ with
        | some ρ' => WE C c { st with ρ := ρ' } (fun u => match truthV st.H u with
          | some true => WE C elt { st with ρ := ρ' } (fun y => k (some y)) (fun _ => False)
          | some false => k Option.none
          | Option.none => False) (fun _ => False)
        | Option.none => False) xs (fun ys => Q (.lst ys))) X
  | .isexc a t, st, Q, X => WE C a st (fun u => match u with
    | .exc c => allX.contains c = true ∧ Q (.bool (subX c t))
    | _ => False) X
  | .only a, st, _, X => WE C a st (fun _ => False) X
noncomputable def WEs (C : Cx) : Es → St → (List V → Prop) → (String → Prop) → Prop
  | .nil, _, Q, _ => Q []
  | .cons e es, st, Q, X => WE C e st (fun v => WEs C es st (fun vs => Q (v :: vs)) X) X
noncomputable def WCh (C : Cx) : Ch → St → V → (Bool → Prop) → (String → Prop) → Prop
  | .one op e, st, u, Q, X => WE C e st (fun v => cmpV st.H op u v Q) X
  | .more op e c, st, u, Q, X => WE C e st (fun v => cmpV st.H op u v (fun b => if b then WCh C c st v Q X else Q false)) X
noncomputable def WI (C : Cx) : It → St → (List V → List Nat → Prop) → (String → Prop) → Prop
  | .seq e, st, Q, X => WE C e st (fun u => match itemsV st.H u with
    | some vs => Q vs (depsV u)
    | Option.none => False) X
  | .rev e, st, Q, X => WE C e st (fun u => match seqL st.H u with
    | some vs => Q vs.reverse (depsV u)
    | Option.none => False) X
  | .range1 n, st, Q, X => WE C n st (fun u => rng1 [u] fun i => Q (upL 0 i) []) X
  | .range2 a b, st, Q, X => WE C a st (fun u => WE C b st (fun v => rng2 [u, v] fun i j => Q (upL i j) []) X) X
  | .range3 a b c, st, Q, X => WE C a st (fun u => WE C b st (fun v => WE C c st (fun w => rng3 [u, v, w] fun i j k => k = -1 ∧ Q (downL i j) []) X) X) X
  | .enum e, st, Q, X => WE C e st (fun u => rowP st.H u fun vs => Q (enumL 0 vs) (depsV u)) X
  | .zip a b, st, Q, X => WE C a st (fun u => WE C b st (fun v => rowP st.H u fun xs => rowP st.H v fun ys => Q (zipL xs ys) (depsV u ++ depsV v)) X) X
  | .keys e, st, Q, X => WE C e st (fun u => dictP st.H u fun a kvs => Q (kvs.map fun p => keyV p.1) [a]) X
end

noncomputable def freshAt (st : St) (a : Nat) : Prop := st.H a = Option.none ∧ st.B a = Option.none

mutual
noncomputable def WA (C : Cx) : A → St → (V → AH → Prop) → (String → Prop) → Prop
  | .pure e, st, Q, X => WE C e st (fun v => Q v st.H) X
  | .thaw e, st, Q, X => WE C e st (fun v => match v with
    | .lst vs => ∀ a, freshAt st a → Q (.ref a) (st.H.upd a (.list vs))
    | _ => False) X
  | .list as, st, Q, X => WAs C as st (fun vs H' => vs.length ≤ sizeLine ∧ ∀ a, H' a = Option.none → st.B a = Option.none → Q (.ref a) (H'.upd a (.list vs))) X
  | .dict, st, Q, _ => ∀ a, freshAt st a → Q (.ref a) (st.H.upd a (.dict []))
  | .new c args, st, Q, X => (match C.cls c with
    | some (k, n, fs) => WEs C args st (fun vs => vs.length = n ∧ ∀ a, freshAt st a → Q (.iref k (fs.map (·.1)) a) (st.H.upd a (.inst k (fs.map (·.1)) (fs.map fun f => iniV vs f.2)))) X
    | Option.none => False)
  | .callO f args, st, Q, X => WEs C args st (fun vs => C.callO f vs st.H (fun ws => ∀ a, freshAt st a → Q (.ref a) (st.H.upd a (.list ws))) X) X
noncomputable def WAs (C : Cx) : As → St → (List V → AH → Prop) → (String → Prop) → Prop
  | .nil, st, Q, _ => Q [] st.H
  | .cons a as, st, Q, X => WA C a st (fun v H' => WAs C as { st with H := H' } (fun vs H'' => Q (v :: vs) H'') X) X
end

mutual
/-- statements that turn nothing but names -/
noncomputable def quietS : S → Bool
  | .expr _ => true
  | .assign _ _ => true
  | .own _ _ => true
  | .ite _ a b => quietB a && quietB b
  | .ret _ => true
  | _ => false
noncomputable def quietB : Bl → Bool
  | .nil => true
  | .cons s b => quietS s && quietB b
end
inductive Fl where
  | next | brk | cont
  | ret (v : V)

noncomputable def whileN (T : St → (Bool → Prop) → Prop) (W : St → (Fl → St → Prop) → Prop) (Q : Fl → St → Prop) : Nat → St → Prop
  | 0, _ => False
  | n + 1, st => T st fun b => if b then W st (fun f st' => match f with
      | .next | .cont => whileN T W Q n st'
      | .brk => Q .next st'
      | .ret v => Q (.ret v) st') else Q .next st

noncomputable def forL (t : Tg) (W : St → (Fl → St → Prop) → Prop) (Q : Fl → St → Prop) : List V → St → Prop
  | [], st => Q .next st
  | x :: xs, st => match bindT t x st.ρ with
    | some ρ' => W { st with ρ := ρ' } (fun f st' => match f with
      | .next | .cont => forL t W Q xs st'
      | .brk => Q .next st'
      | .ret v => Q (.ret v) st')
    | Option.none => False

mutual
noncomputable def WS (C : Cx) : S → St → (Fl → St → Prop) → (String → St → Prop) → Prop
  | .expr e, st, Q, X => WE C e st (fun _ => Q .next st) (fun x => X x st)
  | .assign t e, st, Q, X => WE C e st (fun v => match bindT t v st.ρ with
    | some ρ' => Q .next { st with ρ := ρ' }
    | Option.none => False) (fun x => X x st)
  | .own i a, st, Q, X => WA C a st (fun v H' => match putV i v st.ρ with
    | some ρ' => Q .next { st with ρ := ρ', H := H' }
    | Option.none => False) (fun x => X x st)
  | .append e a, st, Q, X => WE C e st (fun v => match v with
    | .ref ad => (match st.H ad with
      | some (.list _) => WA C a st (fun w H' => match H' ad with
        | some (.list vs) => st.B ad = Option.none ∧ vs.length < sizeLine ∧ Q .next { st with H := H'.upd ad (.list (vs ++ [w])) }
        | _ => False) (fun x => X x st)
      | _ => False)
    | _ => False) (fun x => X x st)
  | .pop t e, st, Q, X => WE C e st (fun v => match v with
    | .ref ad => (match st.H ad with
      | some (.list vs) => (match vs.getLast? with
        | some w => st.B ad = Option.none ∧ (match bindT t w st.ρ with
          | some ρ' => Q .next { st with ρ := ρ', H := st.H.upd ad (.list vs.dropLast) }
          | Option.none => False)
        | Option.none => False)
      | _ => False)
    | _ => False) (fun x => X x st)
  | .setitem e k v, st, Q, X => WE C v st (fun w => WE C e st (fun u => WE C k st (fun kk => setV st.H st.B u kk fun ad vs n => Q .next { st with H := st.H.upd ad (.list (vs.set n w)) }) (fun x => X x st)) (fun x => X x st)) (fun x => X x st)
  | .setkey e k v, st, Q, X => WE C v st (fun w => WE C e st (fun u => WE C k st (fun kk => dictP st.H u fun ad kvs => keyP kk fun ks => st.B ad = Option.none ∧ kvs.length < sizeLine ∧ Q .next { st with H := st.H.upd ad (.dict (dput ks w kvs)) }) (fun x => X x st)) (fun x => X x st)) (fun x => X x st)
  | .setattr e n v, st, Q, X => WE C v st (fun w => WE C e st (fun u => match u with
    | .iref c' ns' ad => st.B ad = Option.none ∧ (match st.H ad with
      | some (.inst c ns vs) => C.has c ns = true ∧ c = c' ∧ ns = ns' ∧ (match setAttrL n w ns vs with
        | some vs' => Q .next { st with H := st.H.upd ad (.inst c ns vs') }
        | Option.none => False)
      | _ => False)
    | _ => False) (fun x => X x st)) (fun x => X x st)
  | .setlast e v, st, Q, X => WE C v st (fun w => WE C e st (fun u => match u with
    | .ref ad => st.B ad = Option.none ∧ (match st.H ad with
      | some (.list vs) => vs ≠ [] ∧ Q .next { st with H := st.H.upd ad (.list (vs.set (vs.length - 1) w)) }
      | _ => False)
    | _ => False) (fun x => X x st)) (fun x => X x st)
  | .ite t a b, st, Q, X => WE C t st (fun u => match truthV st.H u with
    | some true => WB C a st Q X
    | some false => WB C b st Q X
    | Option.none => False) (fun x => X x st)
  | .while t b, st, Q, X => ∃ n, whileN (fun st' K => WE C t st' (fun u => match truthV st'.H u with
      | some r => K r
      | Option.none => False) (fun x => X x st')) (fun st' K => WB C b st' K X) Q n st
  | .for t it b, st, Q, X => WI C it st (fun xs ds => (quietB b = true ∨ ∀ a ∈ ds, st.B a ≠ Option.none) ∧ forL t (fun st' K => WB C b st' K X) Q xs st) (fun x => X x st)
  | .ret e, st, Q, X => WE C e st (fun v => Q (.ret v) st) (fun x => X x st)
  | .retO e, st, Q, X => WE C e st (fun v => match v with
    | .lst vs => ∀ a, freshAt st a → Q (.ret (.ref a)) { st with H := st.H.upd a (.list vs) }
    | _ => False) (fun x => X x st)
  | .raise _ _, _, _, _ => False
  | .rz c m, st, _, X => WE C m st (fun _ => X c st) (fun x => X x st)
  | .tryEx e cl x h, st, Q, X => WE C e st (fun _ => Q .next st) (fun c => subX c cl = true ∧ (match x with
    | Option.none => WB C h st Q (fun _ _ => False)
    | some i => i < st.ρ.length ∧ WB C h { st with ρ := st.ρ.set i (some (.exc c)) } (fun f st' => Q f { st' with ρ := st'.ρ.set i Option.none }) (fun _ _ => False)))
noncomputable def WB (C : Cx) : Bl → St → (Fl → St → Prop) → (String → St → Prop) → Prop
  | .nil, st, Q, _ => Q .next st
  | .cons s b, st, Q, X => WS C s st (fun f st' => match f with
    | .next => WB C b st' Q X
    | f => Q f st') X
end

noncomputable abbrev Tbl := List (String × Fn)
noncomputable abbrev Clss := List (String × Nat × Nat × List (String × Ini))
noncomputable def hasC (cls : Clss) (c : Nat) (ns : List String) : Bool := cls.any fun r => decide (r.2.1 = c) && decide (r.2.2.2.map (·.1) = ns)

noncomputable def runN (tbl : Tbl) (glob : List (String × V)) (cls : Clss) : Nat → RunSem
  | 0 => fun _ _ _ _ _ => False
  | d + 1 => fun f args H Q X => match tbl.lookup f with
    | Option.none => False
    | some fn => args.length = fn.np ∧ fn.np ≤ fn.nv ∧ WB ⟨runN tbl glob cls d, fun x => glob.lookup x, fun x => cls.lookup x, hasC cls⟩ fn.body
        ⟨args.map some ++ List.replicate (fn.nv - fn.np) Option.none, H, H⟩
        (fun fl st => match fl with
          | .ret v => Q v st.H
          | .next => Q .none st.H
          | _ => False) (fun x _ => X x)
noncomputable def cxN (tbl : Tbl) (glob : List (String × V)) (cls : Clss) (d : Nat) : Cx := ⟨runN tbl glob cls d, fun x => glob.lookup x, fun x => cls.lookup x, hasC cls⟩

/-- a thing that an expression has just made -/
noncomputable def isFresh : E → Bool
  | .list _ => true
  | .comp _ _ _ => true
  | .compIf _ _ _ _ => true
  | .listOf _ => true
  | .bin _ _ _ => true
  | _ => false

end Mine
end

set_option autoImplicit false
namespace Mine
open PySem
@[local simp] theorem we_0 {C} {u1} {Q} {u3} : WE C (.none) u1 Q u3 = (Q .none) := rfl
@[local simp] theorem we_1 {C} {b} {u1} {Q} {u3} : WE C (.bool b) u1 Q u3 = (Q (.bool b)) := rfl
@[local simp] theorem we_2 {C} {i} {u1} {Q} {u3} : WE C (.int i) u1 Q u3 = (Q (.int i)) := rfl
@[local simp] theorem we_3 {C} {s} {u1} {Q} {u3} : WE C (.str s) u1 Q u3 = (Q (.str s)) := rfl
theorem we_4 {C} {i} {st} {Q} {u3} : WE C (.var i) st Q u3 = ((match st.ρ[i]? with
    | some (some v) => Q v
    | _ => False)) := rfl
@[local simp] theorem we_5 {C} {x} {u1} {Q} {u3} : WE C (.glob x) u1 Q u3 = ((match C.glob x with
    | some v => Q v
    | Option.none => False)) := rfl
@[local simp] theorem we_6 {C} {op} {a} {b} {st} {Q} {X} : WE C (.bin op a b) st Q X = (WE C a st (fun u => WE C b st (fun v => binV st.H op u v Q) X) X) := rfl
@[local simp] theorem we_7 {C} {a} {st} {Q} {X} : WE C (.neg a) st Q X = (WE C a st (fun u => match u with
    | .int i => Q (.int (-i))
    | _ => False) X) := rfl
@[local simp] theorem we_8 {C} {a} {st} {Q} {X} : WE C (.not a) st Q X = (WE C a st (fun u => match truthV st.H u with
    | some b => Q (.bool (!b))
    | Option.none => False) X) := rfl
@[local simp] theorem we_9 {C} {a} {b} {st} {Q} {X} : WE C (.and a b) st Q X = (WE C a st (fun u => match truthV st.H u with
    | some true => WE C b st Q X
    | some false => Q u
    | Option.none => False) X) := rfl
@[local simp] theorem we_10 {C} {a} {b} {st} {Q} {X} : WE C (.or a b) st Q X = (WE C a st (fun u => match truthV st.H u with
    | some true => Q u
    | some false => WE C b st Q X
    | Option.none => False) X) := rfl
@[local simp] theorem we_11 {C} {t} {a} {b} {st} {Q} {X} : WE C (.ite t a b) st Q X = (WE C t st (fun u => match truthV st.H u with
    | some true => WE C a st Q X
    | some false => WE C b st Q X
    | Option.none => False) X) := rfl
@[local simp] theorem we_12 {C} {es} {st} {Q} {X} : WE C (.list es) st Q X = (WEs C es st (fun vs => vs.length ≤ sizeLine ∧ Q (.lst vs)) X) := rfl
@[local simp] theorem we_13 {C} {es} {st} {Q} {X} : WE C (.tup es) st Q X = (WEs C es st (fun vs => vs.length ≤ sizeLine ∧ Q (.tup vs)) X) := rfl
@[local simp] theorem we_14 {C} {a} {c} {st} {Q} {X} : WE C (.cmp a c) st Q X = (WE C a st (fun u => WCh C c st u (fun b => Q (.bool b)) X) X) := rfl
@[local simp] theorem we_15 {C} {a} {i} {st} {Q} {X} : WE C (.sub a i) st Q X = (WE C a st (fun u => WE C i st (fun k => subV st.H u k Q) X) X) := rfl
@[local simp] theorem we_16 {C} {a} {lo} {hi} {st} {Q} {X} : WE C (.slice a lo hi) st Q X = (WE C a st (fun u => WE C lo st (fun l => WE C hi st (fun h => sliceV st.H u l h Q) X) X) X) := rfl
@[local simp] theorem we_17 {C} {f} {args} {st} {Q} {X} : WE C (.call f args) st Q X = (WEs C args st (fun vs => C.call f vs st.H Q X) X) := rfl
@[local simp] theorem we_18 {C} {a} {t} {st} {Q} {X} : WE C (.isinst a t) st Q X = (WE C a st (fun u => match isT st.H t u with
    | some b => Q (.bool b)
    | Option.none => False) X) := rfl
@[local simp] theorem we_19 {C} {a} {st} {Q} {X} : WE C (.len a) st Q X = (WE C a st (fun u => match sizeV st.H u with
    | some n => Q (.int n)
    | Option.none => False) X) := rfl
@[local simp] theorem we_20 {C} {a} {st} {Q} {X} : WE C (.sum a) st Q X = (WE C a st (fun u => sum1 st.H [u] fun n => Q (.int n)) X) := rfl
@[local simp] theorem we_21 {C} {a} {b} {st} {Q} {X} : WE C (.max2 a b) st Q X = (WE C a st (fun u => WE C b st (fun v => int2 [u, v] fun i j => Q (.int (if j > i then j else i))) X) X) := rfl
@[local simp] theorem we_22 {C} {a} {b} {st} {Q} {X} : WE C (.min2 a b) st Q X = (WE C a st (fun u => WE C b st (fun v => int2 [u, v] fun i j => Q (.int (if j < i then j else i))) X) X) := rfl
@[local simp] theorem we_23 {C} {a} {st} {Q} {X} : WE C (.maxl a) st Q X = (WE C a st (fun u => max1 st.H [u] fun n => Q (.int n)) X) := rfl
@[local simp] theorem we_24 {C} {a} {d} {st} {Q} {X} : WE C (.maxd a d) st Q X = (WE C a st (fun u => WE C d st (fun v => maxD st.H u v Q) X) X) := rfl
@[local simp] theorem we_25 {C} {a} {st} {Q} {X} : WE C (.strOf a) st Q X = (WE C a st (fun u => intP u fun i => i.natAbs < 2 ^ 62 ∧ Q (.str (Str.ofString (toString i)))) X) := rfl
@[local simp] theorem we_26 {C} {a} {st} {Q} {X} : WE C (.intOf a) st Q X = (WE C a st (fun u => intOfV u Q) X) := rfl
@[local simp] theorem we_27 {C} {a} {st} {Q} {X} : WE C (.tupOf a) st Q X = (WE C a st (fun u => seqP st.H u fun vs => Q (.tup vs)) X) := rfl
@[local simp] theorem we_28 {C} {it} {st} {Q} {X} : WE C (.listOf it) st Q X = (WI C it st (fun vs _ => vs.length ≤ sizeLine ∧ Q (.lst vs)) X) := rfl
@[local simp] theorem we_29 {C} {s} {a} {st} {Q} {X} : WE C (.join s a) st Q X = (WE C s st (fun u => WE C a st (fun v => match u, (seqL st.H v).bind strsOf with
    | .str s, some ss => lenAll ss + s.length * ss.length ≤ sizeLine ∧ Q (.str (Str.join s ss))
    | _, _ => False) X) X) := rfl
@[local simp] theorem we_30 {C} {d} {k} {v} {st} {Q} {X} : WE C (.get d k v) st Q X = (WE C d st (fun u => dictP st.H u fun _ kvs => WE C k st (fun kk => WE C v st (fun w => keyP kk fun ks => Q ((dlook ks kvs).getD w)) X) X) X) := rfl
@[local simp] theorem we_31 {C} {u1} {Q} {u3} : WE C (.dict0) u1 Q u3 = (Q .dct) := rfl
@[local simp] theorem we_32 {C} {a} {n} {st} {Q} {X} : WE C (.attr a n) st Q X = (WE C a st (fun u => match u with
    | .inst c ns vs => C.has c ns = true ∧ (match attrL n ns vs with
      | some v => Q v
      | Option.none => False)
    | .iref c ns ad => (match st.H ad with
      | some (.inst c' ns' vs) => C.has c ns = true ∧ c' = c ∧ ns' = ns ∧ (match attrL n ns vs with
        | some v => Q v
        | Option.none => False)
      | _ => False)
    | _ => False) X) := rfl
@[local simp] theorem we_33 {C} {c} {args} {st} {Q} {X} : WE C (.new c args) st Q X = ((match C.cls c with
    | some (k, n, fs) => WEs C args st (fun vs => vs.length = n ∧ Q (.inst k (fs.map (·.1)) (fs.map fun f => iniV vs f.2))) X
    | Option.none => False)) := rfl
@[local simp] theorem we_34 {C} {elt} {t} {it} {st} {Q} {X} : WE C (.comp elt t it) st Q X = (WI C it st (fun xs _ => xs.length ≤ sizeLine ∧
      compL (fun x k => match bindT t x st.ρ with
        | some ρ' => WE C elt { st with ρ := ρ' } (fun y => k (some y)) (fun _ => False)
        | Option.none => False) xs (fun ys => Q (.lst ys))) X) := rfl
@[local simp] theorem we_35 {C} {elt} {t} {it} {c} {st} {Q} {X} : WE C (.compIf elt t it c) st Q X = (WI C it st (fun xs _ => xs.length ≤ sizeLine ∧
      compL (fun x k => match bindT t x st.ρ with
        | some ρ' => WE C c { st with ρ := ρ' } (fun u => match truthV st.H u with
          | some true => WE C elt { st with ρ := ρ' } (fun y => k (some y)) (fun _ => False)
          | some false => k Option.none
          | Option.none => False) (fun _ => False)
        | Option.none => False) xs (fun ys => Q (.lst ys))) X) := rfl
@[local simp] theorem we_36 {C} {a} {t} {st} {Q} {X} : WE C (.isexc a t) st Q X = (WE C a st (fun u => match u with
    | .exc c => allX.contains c = true ∧ Q (.bool (subX c t))
    | _ => False) X) := rfl
@[local simp] theorem we_37 {C} {a} {st} {u2} {X} : WE C (.only a) st u2 X = (WE C a st (fun _ => False) X) := rfl
@[local simp] theorem wes_0 {C} {u1} {Q} {u3} : WEs C (.nil) u1 Q u3 = (Q []) := rfl
@[local simp] theorem wes_1 {C} {e} {es} {st} {Q} {X} : WEs C (.cons e es) st Q X = (WE C e st (fun v => WEs C es st (fun vs => Q (v :: vs)) X) X) := rfl
@[local simp] theorem wch_0 {C} {op} {e} {st} {u} {Q} {X} : WCh C (.one op e) st u Q X = (WE C e st (fun v => cmpV st.H op u v Q) X) := rfl
@[local simp] theorem wch_1 {C} {op} {e} {c} {st} {u} {Q} {X} : WCh C (.more op e c) st u Q X = (WE C e st (fun v => cmpV st.H op u v (fun b => if b then WCh C c st v Q X else Q false)) X) := rfl
@[local simp] theorem wi_0 {C} {e} {st} {Q} {X} : WI C (.seq e) st Q X = (WE C e st (fun u => match itemsV st.H u with
    | some vs => Q vs (depsV u)
    | Option.none => False) X) := rfl
@[local simp] theorem wi_1 {C} {e} {st} {Q} {X} : WI C (.rev e) st Q X = (WE C e st (fun u => match seqL st.H u with
    | some vs => Q vs.reverse (depsV u)
    | Option.none => False) X) := rfl
@[local simp] theorem wi_2 {C} {n} {st} {Q} {X} : WI C (.range1 n) st Q X = (WE C n st (fun u => rng1 [u] fun i => Q (upL 0 i) []) X) := rfl
@[local simp] theorem wi_3 {C} {a} {b} {st} {Q} {X} : WI C (.range2 a b) st Q X = (WE C a st (fun u => WE C b st (fun v => rng2 [u, v] fun i j => Q (upL i j) []) X) X) := rfl
@[local simp] theorem wi_4 {C} {a} {b} {c} {st} {Q} {X} : WI C (.range3 a b c) st Q X = (WE C a st (fun u => WE C b st (fun v => WE C c st (fun w => rng3 [u, v, w] fun i j k => k = -1 ∧ Q (downL i j) []) X) X) X) := rfl
@[local simp] theorem wi_5 {C} {e} {st} {Q} {X} : WI C (.enum e) st Q X = (WE C e st (fun u => rowP st.H u fun vs => Q (enumL 0 vs) (depsV u)) X) := rfl
@[local simp] theorem wi_6 {C} {a} {b} {st} {Q} {X} : WI C (.zip a b) st Q X = (WE C a st (fun u => WE C b st (fun v => rowP st.H u fun xs => rowP st.H v fun ys => Q (zipL xs ys) (depsV u ++ depsV v)) X) X) := rfl
@[local simp] theorem wi_7 {C} {e} {st} {Q} {X} : WI C (.keys e) st Q X = (WE C e st (fun u => dictP st.H u fun a kvs => Q (kvs.map fun p => keyV p.1) [a]) X) := rfl
@[local simp] theorem wa_0 {C} {e} {st} {Q} {X} : WA C (.pure e) st Q X = (WE C e st (fun v => Q v st.H) X) := rfl
@[local simp] theorem wa_1 {C} {e} {st} {Q} {X} : WA C (.thaw e) st Q X = (WE C e st (fun v => match v with
    | .lst vs => ∀ a, freshAt st a → Q (.ref a) (st.H.upd a (.list vs))
    | _ => False) X) := rfl
@[local simp] theorem wa_2 {C} {as} {st} {Q} {X} : WA C (.list as) st Q X = (WAs C as st (fun vs H' => vs.length ≤ sizeLine ∧ ∀ a, H' a = Option.none → st.B a = Option.none → Q (.ref a) (H'.upd a (.list vs))) X) := rfl
@[local simp] theorem wa_3 {C} {st} {Q} {u3} : WA C (.dict) st Q u3 = (∀ a, freshAt st a → Q (.ref a) (st.H.upd a (.dict []))) := rfl
@[local simp] theorem wa_4 {C} {c} {args} {st} {Q} {X} : WA C (.new c args) st Q X = ((match C.cls c with
    | some (k, n, fs) => WEs C args st (fun vs => vs.length = n ∧ ∀ a, freshAt st a → Q (.iref k (fs.map (·.1)) a) (st.H.upd a (.inst k (fs.map (·.1)) (fs.map fun f => iniV vs f.2)))) X
    | Option.none => False)) := rfl
@[local simp] theorem wa_5 {C} {f} {args} {st} {Q} {X} : WA C (.callO f args) st Q X = (WEs C args st (fun vs => C.callO f vs st.H (fun ws => ∀ a, freshAt st a → Q (.ref a) (st.H.upd a (.list ws))) X) X) := rfl
@[local simp] theorem was_0 {C} {st} {Q} {u3} : WAs C (.nil) st Q u3 = (Q [] st.H) := rfl
@[local simp] theorem was_1 {C} {a} {as} {st} {Q} {X} : WAs C (.cons a as) st Q X = (WA C a st (fun v H' => WAs C as { st with H := H' } (fun vs H'' => Q (v :: vs) H'') X) X) := rfl
@[local simp] theorem ws_0 {C} {e} {st} {Q} {X} : WS C (.expr e) st Q X = (WE C e st (fun _ => Q .next st) (fun x => X x st)) := rfl
@[local simp] theorem ws_1 {C} {t} {e} {st} {Q} {X} : WS C (.assign t e) st Q X = (WE C e st (fun v => match bindT t v st.ρ with
    | some ρ' => Q .next { st with ρ := ρ' }
    | Option.none => False) (fun x => X x st)) := rfl
@[local simp] theorem ws_2 {C} {i} {a} {st} {Q} {X} : WS C (.own i a) st Q X = (WA C a st (fun v H' => match putV i v st.ρ with
    | some ρ' => Q .next { st with ρ := ρ', H := H' }
    | Option.none => False) (fun x => X x st)) := rfl
@[local simp] theorem ws_3 {C} {e} {a} {st} {Q} {X} : WS C (.append e a) st Q X = (WE C e st (fun v => match v with
    | .ref ad => (match st.H ad with
      | some (.list _) => WA C a st (fun w H' => match H' ad with
        | some (.list vs) => st.B ad = Option.none ∧ vs.length < sizeLine ∧ Q .next { st with H := H'.upd ad (.list (vs ++ [w])) }
        | _ => False) (fun x => X x st)
      | _ => False)
    | _ => False) (fun x => X x st)) := rfl
@[local simp] theorem ws_4 {C} {t} {e} {st} {Q} {X} : WS C (.pop t e) st Q X = (WE C e st (fun v => match v with
    | .ref ad => (match st.H ad with
      | some (.list vs) => (match vs.getLast? with
        | some w => st.B ad = Option.none ∧ (match bindT t w st.ρ with
          | some ρ' => Q .next { st with ρ := ρ', H := st.H.upd ad (.list vs.dropLast) }
          | Option.none => False)
        | Option.none => False)
      | _ => False)
    | _ => False) (fun x => X x st)) := rfl
@[local simp] theorem ws_5 {C} {e} {k} {v} {st} {Q} {X} : WS C (.setitem e k v) st Q X = (WE C v st (fun w => WE C e st (fun u => WE C k st (fun kk => setV st.H st.B u kk fun ad vs n => Q .next { st with H := st.H.upd ad (.list (vs.set n w)) }) (fun x => X x st)) (fun x => X x st)) (fun x => X x st)) := rfl
@[local simp] theorem ws_6 {C} {e} {k} {v} {st} {Q} {X} : WS C (.setkey e k v) st Q X = (WE C v st (fun w => WE C e st (fun u => WE C k st (fun kk => dictP st.H u fun ad kvs => keyP kk fun ks => st.B ad = Option.none ∧ kvs.length < sizeLine ∧ Q .next { st with H := st.H.upd ad (.dict (dput ks w kvs)) }) (fun x => X x st)) (fun x => X x st)) (fun x => X x st)) := rfl
@[local simp] theorem ws_7 {C} {e} {n} {v} {st} {Q} {X} : WS C (.setattr e n v) st Q X = (WE C v st (fun w => WE C e st (fun u => match u with
    | .iref c' ns' ad => st.B ad = Option.none ∧ (match st.H ad with
      | some (.inst c ns vs) => C.has c ns = true ∧ c = c' ∧ ns = ns' ∧ (match setAttrL n w ns vs with
        | some vs' => Q .next { st with H := st.H.upd ad (.inst c ns vs') }
        | Option.none => False)
      | _ => False)
    | _ => False) (fun x => X x st)) (fun x => X x st)) := rfl
@[local simp] theorem ws_8 {C} {e} {v} {st} {Q} {X} : WS C (.setlast e v) st Q X = (WE C v st (fun w => WE C e st (fun u => match u with
    | .ref ad => st.B ad = Option.none ∧ (match st.H ad with
      | some (.list vs) => vs ≠ [] ∧ Q .next { st with H := st.H.upd ad (.list (vs.set (vs.length - 1) w)) }
      | _ => False)
    | _ => False) (fun x => X x st)) (fun x => X x st)) := rfl
@[local simp] theorem ws_9 {C} {t} {a} {b} {st} {Q} {X} : WS C (.ite t a b) st Q X = (WE C t st (fun u => match truthV st.H u with
    | some true => WB C a st Q X
    | some false => WB C b st Q X
    | Option.none => False) (fun x => X x st)) := rfl
@[local simp] theorem ws_10 {C} {t} {b} {st} {Q} {X} : WS C (.while t b) st Q X = (∃ n, whileN (fun st' K => WE C t st' (fun u => match truthV st'.H u with
      | some r => K r
      | Option.none => False) (fun x => X x st')) (fun st' K => WB C b st' K X) Q n st) := rfl
@[local simp] theorem ws_11 {C} {t} {it} {b} {st} {Q} {X} : WS C (.for t it b) st Q X = (WI C it st (fun xs ds => (quietB b = true ∨ ∀ a ∈ ds, st.B a ≠ Option.none) ∧ forL t (fun st' K => WB C b st' K X) Q xs st) (fun x => X x st)) := rfl
@[local simp] theorem ws_12 {C} {e} {st} {Q} {X} : WS C (.ret e) st Q X = (WE C e st (fun v => Q (.ret v) st) (fun x => X x st)) := rfl
@[local simp] theorem ws_13 {C} {e} {st} {Q} {X} : WS C (.retO e) st Q X = (WE C e st (fun v => match v with
    | .lst vs => ∀ a, freshAt st a → Q (.ret (.ref a)) { st with H := st.H.upd a (.list vs) }
    | _ => False) (fun x => X x st)) := rfl
@[local simp] theorem ws_14 {C} {w0_7} {w0_9} {u1} {u2} {u3} : WS C (.raise w0_7 w0_9) u1 u2 u3 = (False) := rfl
@[local simp] theorem ws_15 {C} {c} {m} {st} {u2} {X} : WS C (.rz c m) st u2 X = (WE C m st (fun _ => X c st) (fun x => X x st)) := rfl
@[local simp] theorem ws_16 {C} {e} {cl} {x} {h} {st} {Q} {X} : WS C (.tryEx e cl x h) st Q X = (WE C e st (fun _ => Q .next st) (fun c => subX c cl = true ∧ (match x with
    | Option.none => WB C h st Q (fun _ _ => False)
    | some i => i < st.ρ.length ∧ WB C h { st with ρ := st.ρ.set i (some (.exc c)) } (fun f st' => Q f { st' with ρ := st'.ρ.set i Option.none }) (fun _ _ => False)))) := rfl
theorem wb_0 {C} {st} {Q} {u3} : WB C (.nil) st Q u3 = (Q .next st) := rfl
theorem wb_1 {C} {s} {b} {st} {Q} {X} : WB C (.cons s b) st Q X = (WS C s st (fun f st' => match f with
    | .next => WB C b st' Q X
    | f => Q f st') X) := rfl
@[local simp] theorem tv_none {H : AH}  : truthV H .none = Option.none := rfl
@[local simp] theorem tv_bool {H : AH} {b : Bool} : truthV H (.bool b) = some b := rfl
@[local simp] theorem tv_int {H : AH} {i : Int} : truthV H (.int i) = Option.none := rfl
@[local simp] theorem tv_str {H : AH} {s : Str} : truthV H (.str s) = Option.none := rfl
@[local simp] theorem tv_tup {H : AH} {vs : List V} : truthV H (.tup vs) = Option.none := rfl
@[local simp] theorem tv_lst {H : AH} {vs : List V} : truthV H (.lst vs) = Option.none := rfl
@[local simp] theorem tv_ref {H : AH} {a : Nat} : truthV H (.ref a) = Option.none := rfl
@[local simp] theorem tv_inst {H : AH} {c : Nat} {ns : List String} {vs : List V} : truthV H (.inst c ns vs) = Option.none := rfl
@[local simp] theorem tv_iref {H : AH} {c : Nat} {ns : List String} {a : Nat} : truthV H (.iref c ns a) = Option.none := rfl
@[local simp] theorem tv_exc {H : AH} {c : String} : truthV H (.exc c) = Option.none := rfl
@[local simp] theorem tv_dct {H : AH}  : truthV H .dct = Option.none := rfl
@[local simp] theorem iv_none {H : AH}  : itemsV H .none = Option.none := rfl
@[local simp] theorem iv_bool {H : AH} {b : Bool} : itemsV H (.bool b) = Option.none := rfl
@[local simp] theorem iv_int {H : AH} {i : Int} : itemsV H (.int i) = Option.none := rfl
@[local simp] theorem iv_str {H : AH} {s : Str} : itemsV H (.str s) = some (signsOf s) := rfl
@[local simp] theorem iv_tup {H : AH} {vs : List V} : itemsV H (.tup vs) = some vs := rfl
@[local simp] theorem iv_lst {H : AH} {vs : List V} : itemsV H (.lst vs) = some vs := rfl
@[local simp] theorem iv_ref {H : AH} {a : Nat} : itemsV H (.ref a) = (match H a with
    | some (.list vs) => some vs
    | _ => Option.none) := rfl
@[local simp] theorem iv_inst {H : AH} {c : Nat} {ns : List String} {vs : List V} : itemsV H (.inst c ns vs) = Option.none := rfl
@[local simp] theorem iv_iref {H : AH} {c : Nat} {ns : List String} {a : Nat} : itemsV H (.iref c ns a) = Option.none := rfl
@[local simp] theorem iv_exc {H : AH} {c : String} : itemsV H (.exc c) = Option.none := rfl
@[local simp] theorem iv_dct {H : AH}  : itemsV H .dct = Option.none := rfl
@[local simp] theorem sq_none {H : AH}  : seqL H .none = Option.none := rfl
@[local simp] theorem sq_bool {H : AH} {b : Bool} : seqL H (.bool b) = Option.none := rfl
@[local simp] theorem sq_int {H : AH} {i : Int} : seqL H (.int i) = Option.none := rfl
@[local simp] theorem sq_str {H : AH} {s : Str} : seqL H (.str s) = Option.none := rfl
@[local simp] theorem sq_tup {H : AH} {vs : List V} : seqL H (.tup vs) = Option.none := rfl
@[local simp] theorem sq_lst {H : AH} {vs : List V} : seqL H (.lst vs) = some vs := rfl
@[local simp] theorem sq_ref {H : AH} {a : Nat} : seqL H (.ref a) = (match H a with
    | some (.list vs) => some vs
    | _ => Option.none) := rfl
@[local simp] theorem sq_inst {H : AH} {c : Nat} {ns : List String} {vs : List V} : seqL H (.inst c ns vs) = Option.none := rfl
@[local simp] theorem sq_iref {H : AH} {c : Nat} {ns : List String} {a : Nat} : seqL H (.iref c ns a) = Option.none := rfl
@[local simp] theorem sq_exc {H : AH} {c : String} : seqL H (.exc c) = Option.none := rfl
@[local simp] theorem sq_dct {H : AH}  : seqL H .dct = Option.none := rfl
@[local simp] theorem zv_none {H : AH}  : sizeV H .none = Option.none := rfl
@[local simp] theorem zv_bool {H : AH} {b : Bool} : sizeV H (.bool b) = Option.none := rfl
@[local simp] theorem zv_int {H : AH} {i : Int} : sizeV H (.int i) = Option.none := rfl
@[local simp] theorem zv_str {H : AH} {s : Str} : sizeV H (.str s) = some s.length := rfl
@[local simp] theorem zv_tup {H : AH} {vs : List V} : sizeV H (.tup vs) = some vs.length := rfl
@[local simp] theorem zv_lst {H : AH} {vs : List V} : sizeV H (.lst vs) = some vs.length := rfl
@[local simp] theorem zv_ref {H : AH} {a : Nat} : sizeV H (.ref a) = (match H a with
    | some (.list vs) => some vs.length
    | _ => Option.none) := rfl
@[local simp] theorem zv_inst {H : AH} {c : Nat} {ns : List String} {vs : List V} : sizeV H (.inst c ns vs) = Option.none := rfl
@[local simp] theorem zv_iref {H : AH} {c : Nat} {ns : List String} {a : Nat} : sizeV H (.iref c ns a) = Option.none := rfl
@[local simp] theorem zv_exc {H : AH} {c : String} : sizeV H (.exc c) = Option.none := rfl
@[local simp] theorem zv_dct {H : AH}  : sizeV H .dct = Option.none := rfl
@[local simp] theorem dv_none   : depsV .none = [] := rfl
@[local simp] theorem dv_bool  {b : Bool} : depsV (.bool b) = [] := rfl
@[local simp] theorem dv_int  {i : Int} : depsV (.int i) = [] := rfl
@[local simp] theorem dv_str  {s : Str} : depsV (.str s) = [] := rfl
@[local simp] theorem dv_tup  {vs : List V} : depsV (.tup vs) = [] := rfl
@[local simp] theorem dv_lst  {vs : List V} : depsV (.lst vs) = [] := rfl
@[local simp] theorem dv_ref  {a : Nat} : depsV (.ref a) = [a] := rfl
@[local simp] theorem dv_inst  {c : Nat} {ns : List String} {vs : List V} : depsV (.inst c ns vs) = [] := rfl
@[local simp] theorem dv_iref  {c : Nat} {ns : List String} {a : Nat} : depsV (.iref c ns a) = [] := rfl
@[local simp] theorem dv_exc  {c : String} : depsV (.exc c) = [] := rfl
@[local simp] theorem dv_dct   : depsV .dct = [] := rfl
theorem rv_none {H : AH}  : resV H .none = .none := rfl
theorem rv_bool {H : AH} {b : Bool} : resV H (.bool b) = (.bool b) := rfl
theorem rv_int {H : AH} {i : Int} : resV H (.int i) = (.int i) := rfl
theorem rv_str {H : AH} {s : Str} : resV H (.str s) = (.str s) := rfl
theorem rv_tup {H : AH} {vs : List V} : resV H (.tup vs) = (.tup vs) := rfl
theorem rv_lst {H : AH} {vs : List V} : resV H (.lst vs) = (.lst vs) := rfl
theorem rv_ref {H : AH} {a : Nat} : resV H (.ref a) = (match H a with
    | some (.list vs) => .lst vs
    | _ => .ref a) := rfl
theorem rv_inst {H : AH} {c : Nat} {ns : List String} {vs : List V} : resV H (.inst c ns vs) = (.inst c ns vs) := rfl
theorem rv_iref {H : AH} {c : Nat} {ns : List String} {a : Nat} : resV H (.iref c ns a) = (.iref c ns a) := rfl
theorem rv_exc {H : AH} {c : String} : resV H (.exc c) = (.exc c) := rfl
theorem rv_dct {H : AH}  : resV H .dct = .dct := rfl
theorem td_none   : toD .none = some .none := rfl
theorem td_bool  {b : Bool} : toD (.bool b) = some (.bool b) := rfl
theorem td_int  {i : Int} : toD (.int i) = some (.int i) := rfl
theorem td_str  {s : Str} : toD (.str s) = some (.str s) := rfl
theorem td_tup  {vs : List V} : toD (.tup vs) = (toDs vs).map .tuple := rfl
theorem td_lst  {vs : List V} : toD (.lst vs) = (toDs vs).map .list := rfl
theorem td_ref  {a : Nat} : toD (.ref a) = Option.none := rfl
theorem td_inst  {c : Nat} {ns : List String} {vs : List V} : toD (.inst c ns vs) = Option.none := rfl
theorem td_iref  {c : Nat} {ns : List String} {a : Nat} : toD (.iref c ns a) = Option.none := rfl
theorem td_exc  {c : String} : toD (.exc c) = Option.none := rfl
theorem td_dct   : toD .dct = Option.none := rfl
theorem tds_nil  : toDs [] = some [] := rfl
theorem tds_cons {v : V} {vs : List V} : toDs (v :: vs) = (match toD v, toDs vs with
    | some d, some ds => some (d :: ds)
    | _, _ => Option.none) := rfl
@[local simp] theorem ist_none {H : AH} {t : Ty}  : isT H t .none = isV t .none := rfl
@[local simp] theorem ist_bool {H : AH} {t : Ty} {b : Bool} : isT H t (.bool b) = isV t (.bool b) := rfl
@[local simp] theorem ist_int {H : AH} {t : Ty} {i : Int} : isT H t (.int i) = isV t (.int i) := rfl
@[local simp] theorem ist_str {H : AH} {t : Ty} {s : Str} : isT H t (.str s) = isV t (.str s) := rfl
@[local simp] theorem ist_tup {H : AH} {t : Ty} {vs : List V} : isT H t (.tup vs) = isV t (.tup vs) := rfl
@[local simp] theorem ist_lst {H : AH} {t : Ty} {vs : List V} : isT H t (.lst vs) = isV t (.lst vs) := rfl
@[local simp] theorem ist_ref {H : AH} {t : Ty} {a : Nat} : isT H t (.ref a) = (match H a with
    | some (.list _) => isV t (.lst [])
    | _ => Option.none) := rfl
@[local simp] theorem ist_inst {H : AH} {t : Ty} {c : Nat} {ns : List String} {vs : List V} : isT H t (.inst c ns vs) = isV t (.inst c ns vs) := rfl
@[local simp] theorem ist_iref {H : AH} {t : Ty} {c : Nat} {ns : List String} {a : Nat} : isT H t (.iref c ns a) = isV t (.iref c ns a) := rfl
@[local simp] theorem ist_exc {H : AH} {t : Ty} {c : String} : isT H t (.exc c) = isV t (.exc c) := rfl
@[local simp] theorem ist_dct {H : AH} {t : Ty}  : isT H t .dct = isV t .dct := rfl
@[local simp] theorem isv_int_none  : isV .int .none = some false := rfl
@[local simp] theorem isv_int_bool {b : Bool} : isV .int (.bool b) = some true := rfl
@[local simp] theorem isv_int_int {i : Int} : isV .int (.int i) = some true := rfl
@[local simp] theorem isv_int_str {s : Str} : isV .int (.str s) = some false := rfl
@[local simp] theorem isv_int_tup {vs : List V} : isV .int (.tup vs) = some false := rfl
@[local simp] theorem isv_int_lst {vs : List V} : isV .int (.lst vs) = some false := rfl
@[local simp] theorem isv_int_ref {a : Nat} : isV .int (.ref a) = Option.none := rfl
@[local simp] theorem isv_int_inst {c : Nat} {ns : List String} {vs : List V} : isV .int (.inst c ns vs) = Option.none := rfl
@[local simp] theorem isv_int_iref {c : Nat} {ns : List String} {a : Nat} : isV .int (.iref c ns a) = Option.none := rfl
@[local simp] theorem isv_int_exc {c : String} : isV .int (.exc c) = Option.none := rfl
@[local simp] theorem isv_int_dct  : isV .int .dct = some false := rfl
@[local simp] theorem isv_bool_none  : isV .bool .none = some false := rfl
@[local simp] theorem isv_bool_bool {b : Bool} : isV .bool (.bool b) = some true := rfl
@[local simp] theorem isv_bool_int {i : Int} : isV .bool (.int i) = some false := rfl
@[local simp] theorem isv_bool_str {s : Str} : isV .bool (.str s) = some false := rfl
@[local simp] theorem isv_bool_tup {vs : List V} : isV .bool (.tup vs) = some false := rfl
@[local simp] theorem isv_bool_lst {vs : List V} : isV .bool (.lst vs) = some false := rfl
@[local simp] theorem isv_bool_ref {a : Nat} : isV .bool (.ref a) = Option.none := rfl
@[local simp] theorem isv_bool_inst {c : Nat} {ns : List String} {vs : List V} : isV .bool (.inst c ns vs) = Option.none := rfl
@[local simp] theorem isv_bool_iref {c : Nat} {ns : List String} {a : Nat} : isV .bool (.iref c ns a) = Option.none := rfl
@[local simp] theorem isv_bool_exc {c : String} : isV .bool (.exc c) = Option.none := rfl
@[local simp] theorem isv_bool_dct  : isV .bool .dct = some false := rfl
@[local simp] theorem isv_str_none  : isV .str .none = some false := rfl
@[local simp] theorem isv_str_bool {b : Bool} : isV .str (.bool b) = some false := rfl
@[local simp] theorem isv_str_int {i : Int} : isV .str (.int i) = some false := rfl
@[local simp] theorem isv_str_str {s : Str} : isV .str (.str s) = some true := rfl
@[local simp] theorem isv_str_tup {vs : List V} : isV .str (.tup vs) = some false := rfl
@[local simp] theorem isv_str_lst {vs : List V} : isV .str (.lst vs) = some false := rfl
@[local simp] theorem isv_str_ref {a : Nat} : isV .str (.ref a) = Option.none := rfl
@[local simp] theorem isv_str_inst {c : Nat} {ns : List String} {vs : List V} : isV .str (.inst c ns vs) = Option.none := rfl
@[local simp] theorem isv_str_iref {c : Nat} {ns : List String} {a : Nat} : isV .str (.iref c ns a) = Option.none := rfl
@[local simp] theorem isv_str_exc {c : String} : isV .str (.exc c) = Option.none := rfl
@[local simp] theorem isv_str_dct  : isV .str .dct = some false := rfl
@[local simp] theorem isv_tuple_none  : isV .tuple .none = some false := rfl
@[local simp] theorem isv_tuple_bool {b : Bool} : isV .tuple (.bool b) = some false := rfl
@[local simp] theorem isv_tuple_int {i : Int} : isV .tuple (.int i) = some false := rfl
@[local simp] theorem isv_tuple_str {s : Str} : isV .tuple (.str s) = some false := rfl
@[local simp] theorem isv_tuple_tup {vs : List V} : isV .tuple (.tup vs) = some true := rfl
@[local simp] theorem isv_tuple_lst {vs : List V} : isV .tuple (.lst vs) = some false := rfl
@[local simp] theorem isv_tuple_ref {a : Nat} : isV .tuple (.ref a) = Option.none := rfl
@[local simp] theorem isv_tuple_inst {c : Nat} {ns : List String} {vs : List V} : isV .tuple (.inst c ns vs) = Option.none := rfl
@[local simp] theorem isv_tuple_iref {c : Nat} {ns : List String} {a : Nat} : isV .tuple (.iref c ns a) = Option.none := rfl
@[local simp] theorem isv_tuple_exc {c : String} : isV .tuple (.exc c) = Option.none := rfl
@[local simp] theorem isv_tuple_dct  : isV .tuple .dct = some false := rfl
@[local simp] theorem isv_list_none  : isV .list .none = some false := rfl
@[local simp] theorem isv_list_bool {b : Bool} : isV .list (.bool b) = some false := rfl
@[local simp] theorem isv_list_int {i : Int} : isV .list (.int i) = some false := rfl
@[local simp] theorem isv_list_str {s : Str} : isV .list (.str s) = some false := rfl
@[local simp] theorem isv_list_tup {vs : List V} : isV .list (.tup vs) = some false := rfl
@[local simp] theorem isv_list_lst {vs : List V} : isV .list (.lst vs) = some true := rfl
@[local simp] theorem isv_list_ref {a : Nat} : isV .list (.ref a) = Option.none := rfl
@[local simp] theorem isv_list_inst {c : Nat} {ns : List String} {vs : List V} : isV .list (.inst c ns vs) = Option.none := rfl
@[local simp] theorem isv_list_iref {c : Nat} {ns : List String} {a : Nat} : isV .list (.iref c ns a) = Option.none := rfl
@[local simp] theorem isv_list_exc {c : String} : isV .list (.exc c) = Option.none := rfl
@[local simp] theorem isv_list_dct  : isV .list .dct = some false := rfl
theorem isv_own_none {cc : String}  : isV (.own cc) .none = Option.none := rfl
theorem isv_ve_none  : isV .ValueError .none = Option.none := rfl
theorem isv_own_bool {cc : String} {b : Bool} : isV (.own cc) (.bool b) = Option.none := rfl
theorem isv_ve_bool {b : Bool} : isV .ValueError (.bool b) = Option.none := rfl
theorem isv_own_int {cc : String} {i : Int} : isV (.own cc) (.int i) = Option.none := rfl
theorem isv_ve_int {i : Int} : isV .ValueError (.int i) = Option.none := rfl
theorem isv_own_str {cc : String} {s : Str} : isV (.own cc) (.str s) = Option.none := rfl
theorem isv_ve_str {s : Str} : isV .ValueError (.str s) = Option.none := rfl
theorem isv_own_tup {cc : String} {vs : List V} : isV (.own cc) (.tup vs) = Option.none := rfl
theorem isv_ve_tup {vs : List V} : isV .ValueError (.tup vs) = Option.none := rfl
theorem isv_own_lst {cc : String} {vs : List V} : isV (.own cc) (.lst vs) = Option.none := rfl
theorem isv_ve_lst {vs : List V} : isV .ValueError (.lst vs) = Option.none := rfl
theorem isv_own_ref {cc : String} {a : Nat} : isV (.own cc) (.ref a) = Option.none := rfl
theorem isv_ve_ref {a : Nat} : isV .ValueError (.ref a) = Option.none := rfl
theorem isv_own_inst {cc : String} {c : Nat} {ns : List String} {vs : List V} : isV (.own cc) (.inst c ns vs) = Option.none := rfl
theorem isv_ve_inst {c : Nat} {ns : List String} {vs : List V} : isV .ValueError (.inst c ns vs) = Option.none := rfl
theorem isv_own_iref {cc : String} {c : Nat} {ns : List String} {a : Nat} : isV (.own cc) (.iref c ns a) = Option.none := rfl
theorem isv_ve_iref {c : Nat} {ns : List String} {a : Nat} : isV .ValueError (.iref c ns a) = Option.none := rfl
theorem isv_own_exc {cc : String} {c : String} : isV (.own cc) (.exc c) = Option.none := rfl
theorem isv_ve_exc {c : String} : isV .ValueError (.exc c) = Option.none := rfl
theorem isv_own_dct {cc : String}  : isV (.own cc) .dct = Option.none := rfl
theorem isv_ve_dct  : isV .ValueError .dct = Option.none := rfl
@[local simp] theorem fz_zero {H B : AH} {v : V} : frz H B 0 v = Option.none := rfl
@[local simp] theorem fz_none {H B : AH} {n : Nat}  : frz H B (n + 1) .none = some .none := rfl
@[local simp] theorem fz_bool {H B : AH} {n : Nat} {b : Bool} : frz H B (n + 1) (.bool b) = some (.bool b) := rfl
@[local simp] theorem fz_int {H B : AH} {n : Nat} {i : Int} : frz H B (n + 1) (.int i) = some (.int i) := rfl
@[local simp] theorem fz_str {H B : AH} {n : Nat} {s : Str} : frz H B (n + 1) (.str s) = some (.str s) := rfl
@[local simp] theorem fz_tup {H B : AH} {n : Nat} {vs : List V} : frz H B (n + 1) (.tup vs) = (frzs H B n vs).map .tup := rfl
@[local simp] theorem fz_lst {H B : AH} {n : Nat} {vs : List V} : frz H B (n + 1) (.lst vs) = (frzs H B n vs).map .lst := rfl
@[local simp] theorem fz_inst {H B : AH} {n : Nat} {c : Nat} {ns : List String} {vs : List V} : frz H B (n + 1) (.inst c ns vs) = (frzs H B n vs).map (.inst c ns) := rfl
@[local simp] theorem fz_ref {H B : AH} {n : Nat} {a : Nat} : frz H B (n + 1) (.ref a) = (match B a with
      | some _ => some (.ref a)
      | Option.none => (match H a with
        | some (.list vs) => (frzs H B n vs).map .lst
        | _ => Option.none)) := rfl
@[local simp] theorem fz_iref {H B : AH} {n : Nat} {c : Nat} {ns : List String} {a : Nat} : frz H B (n + 1) (.iref c ns a) = (match B a with
      | some _ => some (.iref c ns a)
      | Option.none => (match H a with
        | some (.inst _ ns' vs) => if ns' = ns then (frzs H B n vs).map (.inst c ns) else Option.none
        | _ => Option.none)) := rfl
@[local simp] theorem fzs_nil {H B : AH} {n : Nat} : frzs H B n [] = some [] := rfl
@[local simp] theorem fzs_cons {H B : AH} {n : Nat} {v : V} {vs : List V} : frzs H B n (v :: vs) = (match frz H B n v, frzs H B n vs with
    | some x, some xs => some (x :: xs)
    | _, _ => Option.none) := rfl
@[local simp] theorem sa_nil {ρ : List (Option V)} : setAll [] [] ρ = some ρ := rfl
theorem sa_cons {i : Nat} {is : List Nat} {v : V} {vs : List V} {ρ : List (Option V)} : setAll (i :: is) (v :: vs) ρ = (if i < ρ.length then setAll is vs (ρ.set i (some v)) else Option.none) := by
  show (match putV i v ρ with
    | some ρ' => setAll is vs ρ'
    | Option.none => Option.none) = _
  unfold putV
  by_cases h : i < ρ.length
  · rw [if_pos h, if_pos h]
  · rw [if_neg h, if_neg h]
theorem putV_inv {i : Nat} {v : V} {ρ : List (Option V)} {P : List (Option V) → Prop} (h : match putV i v ρ with
    | some ρ' => P ρ'
    | Option.none => False) : i < ρ.length ∧ P (ρ.set i (some v)) := by
  unfold putV at h
  by_cases hi : i < ρ.length
  · rw [if_pos hi] at h; exact ⟨hi, h⟩
  · rw [if_neg hi] at h; exact False.elim h
/-- what a call asks of its body's end -/
def PK (H : AH) (Q : V → Prop) (fl : Fl) (st : St) : Prop := match fl with
  | .ret v => (match frz st.H H 8 v with
    | some v' => Q v'
    | Option.none => False)
  | .next => Q .none
  | _ => False
@[local simp] theorem pk_ret {H : AH} {Q : V → Prop} {v : V} {st : St} : PK H Q (.ret v) st = (match frz st.H H 8 v with
    | some v' => Q v'
    | Option.none => False) := rfl
@[local simp] theorem pk_next {H : AH} {Q : V → Prop} {st : St} : PK H Q .next st = Q .none := rfl
@[local simp] theorem sa_step {i : Nat} {is : List Nat} {v : V} {vs : List V} {ρ : List (Option V)} : setAll (i :: is) (v :: vs) ρ = (match putV i v ρ with
    | some ρ' => setAll is vs ρ'
    | Option.none => Option.none) := rfl
@[local simp] theorem lv_0 {C : Cx} {H B : AH} {Q : V → Prop} {X : String → Prop} {v : V} {ρ : List (Option V)} : WE C (.var 0) ⟨some v :: ρ, H, B⟩ Q X = Q v := rfl
@[local simp] theorem lp_0 {y : Option V} {v : V} {ρ : List (Option V)} : putV 0 v (y :: ρ) = some (some v :: ρ) := rfl
@[local simp] theorem lv_1 {C : Cx} {H B : AH} {Q : V → Prop} {X : String → Prop} {x0 : Option V} {v : V} {ρ : List (Option V)} : WE C (.var 1) ⟨x0 :: some v :: ρ, H, B⟩ Q X = Q v := rfl
@[local simp] theorem lp_1 {x0 : Option V} {y : Option V} {v : V} {ρ : List (Option V)} : putV 1 v (x0 :: y :: ρ) = some (x0 :: some v :: ρ) := rfl
@[local simp] theorem lv_2 {C : Cx} {H B : AH} {Q : V → Prop} {X : String → Prop} {x0 x1 : Option V} {v : V} {ρ : List (Option V)} : WE C (.var 2) ⟨x0 :: x1 :: some v :: ρ, H, B⟩ Q X = Q v := rfl
@[local simp] theorem lp_2 {x0 x1 : Option V} {y : Option V} {v : V} {ρ : List (Option V)} : putV 2 v (x0 :: x1 :: y :: ρ) = some (x0 :: x1 :: some v :: ρ) := rfl
@[local simp] theorem lv_3 {C : Cx} {H B : AH} {Q : V → Prop} {X : String → Prop} {x0 x1 x2 : Option V} {v : V} {ρ : List (Option V)} : WE C (.var 3) ⟨x0 :: x1 :: x2 :: some v :: ρ, H, B⟩ Q X = Q v := rfl
@[local simp] theorem lp_3 {x0 x1 x2 : Option V} {y : Option V} {v : V} {ρ : List (Option V)} : putV 3 v (x0 :: x1 :: x2 :: y :: ρ) = some (x0 :: x1 :: x2 :: some v :: ρ) := rfl
@[local simp] theorem lv_4 {C : Cx} {H B : AH} {Q : V → Prop} {X : String → Prop} {x0 x1 x2 x3 : Option V} {v : V} {ρ : List (Option V)} : WE C (.var 4) ⟨x0 :: x1 :: x2 :: x3 :: some v :: ρ, H, B⟩ Q X = Q v := rfl
@[local simp] theorem lp_4 {x0 x1 x2 x3 : Option V} {y : Option V} {v : V} {ρ : List (Option V)} : putV 4 v (x0 :: x1 :: x2 :: x3 :: y :: ρ) = some (x0 :: x1 :: x2 :: x3 :: some v :: ρ) := rfl
@[local simp] theorem lv_5 {C : Cx} {H B : AH} {Q : V → Prop} {X : String → Prop} {x0 x1 x2 x3 x4 : Option V} {v : V} {ρ : List (Option V)} : WE C (.var 5) ⟨x0 :: x1 :: x2 :: x3 :: x4 :: some v :: ρ, H, B⟩ Q X = Q v := rfl
@[local simp] theorem lp_5 {x0 x1 x2 x3 x4 : Option V} {y : Option V} {v : V} {ρ : List (Option V)} : putV 5 v (x0 :: x1 :: x2 :: x3 :: x4 :: y :: ρ) = some (x0 :: x1 :: x2 :: x3 :: x4 :: some v :: ρ) := rfl
@[local simp] theorem lv_6 {C : Cx} {H B : AH} {Q : V → Prop} {X : String → Prop} {x0 x1 x2 x3 x4 x5 : Option V} {v : V} {ρ : List (Option V)} : WE C (.var 6) ⟨x0 :: x1 :: x2 :: x3 :: x4 :: x5 :: some v :: ρ, H, B⟩ Q X = Q v := rfl
@[local simp] theorem lp_6 {x0 x1 x2 x3 x4 x5 : Option V} {y : Option V} {v : V} {ρ : List (Option V)} : putV 6 v (x0 :: x1 :: x2 :: x3 :: x4 :: x5 :: y :: ρ) = some (x0 :: x1 :: x2 :: x3 :: x4 :: x5 :: some v :: ρ) := rfl
@[local simp] theorem lv_7 {C : Cx} {H B : AH} {Q : V → Prop} {X : String → Prop} {x0 x1 x2 x3 x4 x5 x6 : Option V} {v : V} {ρ : List (Option V)} : WE C (.var 7) ⟨x0 :: x1 :: x2 :: x3 :: x4 :: x5 :: x6 :: some v :: ρ, H, B⟩ Q X = Q v := rfl
@[local simp] theorem lp_7 {x0 x1 x2 x3 x4 x5 x6 : Option V} {y : Option V} {v : V} {ρ : List (Option V)} : putV 7 v (x0 :: x1 :: x2 :: x3 :: x4 :: x5 :: x6 :: y :: ρ) = some (x0 :: x1 :: x2 :: x3 :: x4 :: x5 :: x6 :: some v :: ρ) := rfl
@[local simp] theorem lv_8 {C : Cx} {H B : AH} {Q : V → Prop} {X : String → Prop} {x0 x1 x2 x3 x4 x5 x6 x7 : Option V} {v : V} {ρ : List (Option V)} : WE C (.var 8) ⟨x0 :: x1 :: x2 :: x3 :: x4 :: x5 :: x6 :: x7 :: some v :: ρ, H, B⟩ Q X = Q v := rfl
@[local simp] theorem lp_8 {x0 x1 x2 x3 x4 x5 x6 x7 : Option V} {y : Option V} {v : V} {ρ : List (Option V)} : putV 8 v (x0 :: x1 :: x2 :: x3 :: x4 :: x5 :: x6 :: x7 :: y :: ρ) = some (x0 :: x1 :: x2 :: x3 :: x4 :: x5 :: x6 :: x7 :: some v :: ρ) := rfl
@[local simp] theorem lv_9 {C : Cx} {H B : AH} {Q : V → Prop} {X : String → Prop} {x0 x1 x2 x3 x4 x5 x6 x7 x8 : Option V} {v : V} {ρ : List (Option V)} : WE C (.var 9) ⟨x0 :: x1 :: x2 :: x3 :: x4 :: x5 :: x6 :: x7 :: x8 :: some v :: ρ, H, B⟩ Q X = Q v := rfl
@[local simp] theorem lp_9 {x0 x1 x2 x3 x4 x5 x6 x7 x8 : Option V} {y : Option V} {v : V} {ρ : List (Option V)} : putV 9 v (x0 :: x1 :: x2 :: x3 :: x4 :: x5 :: x6 :: x7 :: x8 :: y :: ρ) = some (x0 :: x1 :: x2 :: x3 :: x4 :: x5 :: x6 :: x7 :: x8 :: some v :: ρ) := rfl
@[local simp] theorem lv_10 {C : Cx} {H B : AH} {Q : V → Prop} {X : String → Prop} {x0 x1 x2 x3 x4 x5 x6 x7 x8 x9 : Option V} {v : V} {ρ : List (Option V)} : WE C (.var 10) ⟨x0 :: x1 :: x2 :: x3 :: x4 :: x5 :: x6 :: x7 :: x8 :: x9 :: some v :: ρ, H, B⟩ Q X = Q v := rfl
@[local simp] theorem lp_10 {x0 x1 x2 x3 x4 x5 x6 x7 x8 x9 : Option V} {y : Option V} {v : V} {ρ : List (Option V)} : putV 10 v (x0 :: x1 :: x2 :: x3 :: x4 :: x5 :: x6 :: x7 :: x8 :: x9 :: y :: ρ) = some (x0 :: x1 :: x2 :: x3 :: x4 :: x5 :: x6 :: x7 :: x8 :: x9 :: some v :: ρ) := rfl
@[local simp] theorem lv_11 {C : Cx} {H B : AH} {Q : V → Prop} {X : String → Prop} {x0 x1 x2 x3 x4 x5 x6 x7 x8 x9 x10 : Option V} {v : V} {ρ : List (Option V)} : WE C (.var 11) ⟨x0 :: x1 :: x2 :: x3 :: x4 :: x5 :: x6 :: x7 :: x8 :: x9 :: x10 :: some v :: ρ, H, B⟩ Q X = Q v := rfl
@[local simp] theorem lp_11 {x0 x1 x2 x3 x4 x5 x6 x7 x8 x9 x10 : Option V} {y : Option V} {v : V} {ρ : List (Option V)} : putV 11 v (x0 :: x1 :: x2 :: x3 :: x4 :: x5 :: x6 :: x7 :: x8 :: x9 :: x10 :: y :: ρ) = some (x0 :: x1 :: x2 :: x3 :: x4 :: x5 :: x6 :: x7 :: x8 :: x9 :: x10 :: some v :: ρ) := rfl
@[local simp] theorem lv_12 {C : Cx} {H B : AH} {Q : V → Prop} {X : String → Prop} {x0 x1 x2 x3 x4 x5 x6 x7 x8 x9 x10 x11 : Option V} {v : V} {ρ : List (Option V)} : WE C (.var 12) ⟨x0 :: x1 :: x2 :: x3 :: x4 :: x5 :: x6 :: x7 :: x8 :: x9 :: x10 :: x11 :: some v :: ρ, H, B⟩ Q X = Q v := rfl
@[local simp] theorem lp_12 {x0 x1 x2 x3 x4 x5 x6 x7 x8 x9 x10 x11 : Option V} {y : Option V} {v : V} {ρ : List (Option V)} : putV 12 v (x0 :: x1 :: x2 :: x3 :: x4 :: x5 :: x6 :: x7 :: x8 :: x9 :: x10 :: x11 :: y :: ρ) = some (x0 :: x1 :: x2 :: x3 :: x4 :: x5 :: x6 :: x7 :: x8 :: x9 :: x10 :: x11 :: some v :: ρ) := rfl
@[local simp] theorem lv_13 {C : Cx} {H B : AH} {Q : V → Prop} {X : String → Prop} {x0 x1 x2 x3 x4 x5 x6 x7 x8 x9 x10 x11 x12 : Option V} {v : V} {ρ : List (Option V)} : WE C (.var 13) ⟨x0 :: x1 :: x2 :: x3 :: x4 :: x5 :: x6 :: x7 :: x8 :: x9 :: x10 :: x11 :: x12 :: some v :: ρ, H, B⟩ Q X = Q v := rfl
@[local simp] theorem lp_13 {x0 x1 x2 x3 x4 x5 x6 x7 x8 x9 x10 x11 x12 : Option V} {y : Option V} {v : V} {ρ : List (Option V)} : putV 13 v (x0 :: x1 :: x2 :: x3 :: x4 :: x5 :: x6 :: x7 :: x8 :: x9 :: x10 :: x11 :: x12 :: y :: ρ) = some (x0 :: x1 :: x2 :: x3 :: x4 :: x5 :: x6 :: x7 :: x8 :: x9 :: x10 :: x11 :: x12 :: some v :: ρ) := rfl
@[local simp] theorem lb_var {i : Nat} {v : V} {ρ : List (Option V)} : bindT (.var i) v ρ = putV i v ρ := rfl
@[local simp] theorem ls_0 {H : AH} {Q : V → Prop} {x y : V} : subV H (.tup [x, y]) (.int 0) Q = Q x := rfl
@[local simp] theorem ls_1 {H : AH} {Q : V → Prop} {x y : V} : subV H (.tup [x, y]) (.int 1) Q = Q y := rfl
@[local simp] theorem sa_l {v : V} {vs : List V} {ρ : List (Option V)} : setAll [] (v :: vs) ρ = Option.none := rfl
@[local simp] theorem sa_r {i : Nat} {is : List Nat} {ρ : List (Option V)} : setAll (i :: is) [] ρ = Option.none := rfl
theorem bd_var {i : Nat} {v : V} {ρ : List (Option V)} : bindT (.var i) v ρ = (if i < ρ.length then some (ρ.set i (some v)) else Option.none) := rfl
@[local simp] theorem bd_tup {is : List Nat} {vs : List V} {ρ : List (Option V)} : bindT (.tup is) (.tup vs) ρ = setAll is vs ρ := rfl
@[local simp] theorem bd_none {is : List Nat}  {ρ : List (Option V)} : bindT (.tup is) .none ρ = Option.none := rfl
@[local simp] theorem bd_bool {is : List Nat} {b : Bool} {ρ : List (Option V)} : bindT (.tup is) (.bool b) ρ = Option.none := rfl
@[local simp] theorem bd_int {is : List Nat} {i : Int} {ρ : List (Option V)} : bindT (.tup is) (.int i) ρ = Option.none := rfl
@[local simp] theorem bd_str {is : List Nat} {s : Str} {ρ : List (Option V)} : bindT (.tup is) (.str s) ρ = Option.none := rfl
@[local simp] theorem bd_lst {is : List Nat} {vs : List V} {ρ : List (Option V)} : bindT (.tup is) (.lst vs) ρ = Option.none := rfl
@[local simp] theorem bd_ref {is : List Nat} {a : Nat} {ρ : List (Option V)} : bindT (.tup is) (.ref a) ρ = Option.none := rfl
@[local simp] theorem bd_inst {is : List Nat} {c : Nat} {ns : List String} {vs : List V} {ρ : List (Option V)} : bindT (.tup is) (.inst c ns vs) ρ = Option.none := rfl
@[local simp] theorem bd_iref {is : List Nat} {c : Nat} {ns : List String} {a : Nat} {ρ : List (Option V)} : bindT (.tup is) (.iref c ns a) ρ = Option.none := rfl
@[local simp] theorem bd_exc {is : List Nat} {c : String} {ρ : List (Option V)} : bindT (.tup is) (.exc c) ρ = Option.none := rfl
@[local simp] theorem bd_dct {is : List Nat}  {ρ : List (Option V)} : bindT (.tup is) .dct ρ = Option.none := rfl
@[local simp] theorem bn_none {n d : Nat} : bnd n d .none = some d := rfl
@[local simp] theorem bn_int {n d : Nat} {i : Int} : bnd n d (.int i) = some (clip n i) := rfl
@[local simp] theorem bn_bool {n d : Nat} {b : Bool} : bnd n d (.bool b) = Option.none := rfl
@[local simp] theorem bn_str {n d : Nat} {s : Str} : bnd n d (.str s) = Option.none := rfl
@[local simp] theorem bn_tup {n d : Nat} {vs : List V} : bnd n d (.tup vs) = Option.none := rfl
@[local simp] theorem bn_lst {n d : Nat} {vs : List V} : bnd n d (.lst vs) = Option.none := rfl
@[local simp] theorem bn_ref {n d : Nat} {a : Nat} : bnd n d (.ref a) = Option.none := rfl
@[local simp] theorem bn_inst {n d : Nat} {c : Nat} {ns : List String} {vs : List V} : bnd n d (.inst c ns vs) = Option.none := rfl
@[local simp] theorem bn_iref {n d : Nat} {c : Nat} {ns : List String} {a : Nat} : bnd n d (.iref c ns a) = Option.none := rfl
@[local simp] theorem bn_exc {n d : Nat} {c : String} : bnd n d (.exc c) = Option.none := rfl
@[local simp] theorem bn_dct {n d : Nat}  : bnd n d .dct = Option.none := rfl
theorem io_nil  : intsOf [] = some [] := rfl
theorem so_nil  : strsOf [] = some [] := rfl
theorem io_none  {r : List V} : intsOf (.none :: r) = Option.none := rfl
theorem so_none  {r : List V} : strsOf (.none :: r) = Option.none := rfl
theorem io_bool {b : Bool} {r : List V} : intsOf ((.bool b) :: r) = Option.none := rfl
theorem so_bool {b : Bool} {r : List V} : strsOf ((.bool b) :: r) = Option.none := rfl
theorem io_int {i : Int} {r : List V} : intsOf ((.int i) :: r) = (intsOf r).map (i :: ·) := rfl
theorem so_int {i : Int} {r : List V} : strsOf ((.int i) :: r) = Option.none := rfl
theorem io_str {s : Str} {r : List V} : intsOf ((.str s) :: r) = Option.none := rfl
theorem so_str {s : Str} {r : List V} : strsOf ((.str s) :: r) = (strsOf r).map (s :: ·) := rfl
theorem io_tup {ws : List V} {r : List V} : intsOf ((.tup ws) :: r) = Option.none := rfl
theorem so_tup {ws : List V} {r : List V} : strsOf ((.tup ws) :: r) = Option.none := rfl
theorem io_lst {ws : List V} {r : List V} : intsOf ((.lst ws) :: r) = Option.none := rfl
theorem so_lst {ws : List V} {r : List V} : strsOf ((.lst ws) :: r) = Option.none := rfl
theorem io_ref {a : Nat} {r : List V} : intsOf ((.ref a) :: r) = Option.none := rfl
theorem so_ref {a : Nat} {r : List V} : strsOf ((.ref a) :: r) = Option.none := rfl
theorem io_inst {c : Nat} {ns : List String} {ws : List V} {r : List V} : intsOf ((.inst c ns ws) :: r) = Option.none := rfl
theorem so_inst {c : Nat} {ns : List String} {ws : List V} {r : List V} : strsOf ((.inst c ns ws) :: r) = Option.none := rfl
theorem io_iref {c : Nat} {ns : List String} {a : Nat} {r : List V} : intsOf ((.iref c ns a) :: r) = Option.none := rfl
theorem so_iref {c : Nat} {ns : List String} {a : Nat} {r : List V} : strsOf ((.iref c ns a) :: r) = Option.none := rfl
theorem io_exc {c : String} {r : List V} : intsOf ((.exc c) :: r) = Option.none := rfl
theorem so_exc {c : String} {r : List V} : strsOf ((.exc c) :: r) = Option.none := rfl
theorem io_dct  {r : List V} : intsOf (.dct :: r) = Option.none := rfl
theorem so_dct  {r : List V} : strsOf (.dct :: r) = Option.none := rfl
theorem la_nil  : lenAll [] = 0 := rfl
theorem la_cons {s : Str} {r : List Str} : lenAll (s :: r) = s.length + lenAll r := rfl
theorem cl_nil {f : V → (Option V → Prop) → Prop} {Q : List V → Prop} : compL f [] Q = Q [] := rfl
theorem cl_cons {f : V → (Option V → Prop) → Prop} {Q : List V → Prop} {x : V} {xs : List V} : compL f (x :: xs) Q = f x fun r => compL f xs fun ys => Q (match r with
    | some y => y :: ys
    | Option.none => ys) := rfl
@[local simp] theorem bv_add {H : AH} {Q : V → Prop} {i j : Int} : binV H .add (.int i) (.int j) Q = Q (.int (i + j)) := rfl
@[local simp] theorem bv_adds {H : AH} {Q : V → Prop} {s t : Str} : binV H .add (.str s) (.str t) Q = (s.length + t.length ≤ sizeLine ∧ Q (.str (s ++ t))) := rfl
@[local simp] theorem bv_addl {H : AH} {Q : V → Prop} {x y : List V} : binV H .add (.lst x) (.lst y) Q = (x.length + y.length ≤ sizeLine ∧ Q (.lst (x ++ y))) := rfl
@[local simp] theorem bv_sub {H : AH} {Q : V → Prop} {i j : Int} : binV H .sub (.int i) (.int j) Q = Q (.int (i - j)) := rfl
@[local simp] theorem bv_mul {H : AH} {Q : V → Prop} {i j : Int} : binV H .mul (.int i) (.int j) Q = ((i.natAbs < 2 ^ 62 ∨ j.natAbs < 2 ^ 62) ∧ Q (.int (i * j))) := rfl
@[local simp] theorem bv_fdiv {H : AH} {Q : V → Prop} {i j : Int} : binV H .fdiv (.int i) (.int j) Q = (j ≠ 0 ∧ Q (.int (i.fdiv j))) := rfl
@[local simp] theorem bv_mod {H : AH} {Q : V → Prop} {i j : Int} : binV H .mod (.int i) (.int j) Q = (j ≠ 0 ∧ Q (.int (i.fmod j))) := rfl
@[local simp] theorem bv_mull {H : AH} {Q : V → Prop} {vs : List V} {n : Int} : binV H .mul (.lst vs) (.int n) Q = (-(2 ^ 62) ≤ n ∧ n < 2 ^ 62 ∧ vs.length * n.toNat ≤ sizeLine ∧ Q (.lst (repL n.toNat vs))) := rfl
@[local simp] theorem bv_muls {H : AH} {Q : V → Prop} {s : Str} {n : Int} : binV H .mul (.str s) (.int n) Q = (0 ≤ n ∧ n < 2 ^ 30 ∧ s.length * n.toNat ≤ sizeLine ∧ Q (.str ⟨(repL n.toNat s.cps.toList).toArray⟩)) := rfl
@[local simp] theorem cv_eq {H : AH} {Q : Bool → Prop} {a b : V} : cmpV H .eq a b Q = eqV H a b Q := rfl
@[local simp] theorem cv_ne {H : AH} {Q : Bool → Prop} {a b : V} : cmpV H .ne a b Q = eqV H a b fun r => Q (!r) := rfl
@[local simp] theorem cv_lt {H : AH} {Q : Bool → Prop} {i j : Int} : cmpV H .lt (.int i) (.int j) Q = Q (decide (i < j)) := rfl
@[local simp] theorem cv_le {H : AH} {Q : Bool → Prop} {i j : Int} : cmpV H .le (.int i) (.int j) Q = Q (decide (i ≤ j)) := rfl
@[local simp] theorem cv_gt {H : AH} {Q : Bool → Prop} {i j : Int} : cmpV H .gt (.int i) (.int j) Q = Q (decide (i > j)) := rfl
@[local simp] theorem cv_ge {H : AH} {Q : Bool → Prop} {i j : Int} : cmpV H .ge (.int i) (.int j) Q = Q (decide (i ≥ j)) := rfl
@[local simp] theorem cv_isin {H : AH} {Q : Bool → Prop} {a b : V} : cmpV H .isin a b Q = inV H a b Q := rfl
@[local simp] theorem cv_notin {H : AH} {Q : Bool → Prop} {a b : V} : cmpV H .notin a b Q = inV H a b fun r => Q (!r) := rfl
theorem in_str {H : AH} {Q : Bool → Prop} {s t : Str} : inV H (.str t) (.str s) Q = Q (hasSub s t) := rfl
@[local simp] theorem sb_tup {H : AH} {Q : V → Prop} {vs : List V} {i : Int} : subV H (.tup vs) (.int i) Q = (match idx vs.length i with
    | some n => (match vs[n]? with
      | some v => Q v
      | Option.none => False)
    | Option.none => False) := rfl
@[local simp] theorem sb_lst {H : AH} {Q : V → Prop} {vs : List V} {i : Int} : subV H (.lst vs) (.int i) Q = (match idx vs.length i with
    | some n => (match vs[n]? with
      | some v => Q v
      | Option.none => False)
    | Option.none => False) := rfl
@[local simp] theorem sb_str {H : AH} {Q : V → Prop} {s : Str} {i : Int} : subV H (.str s) (.int i) Q = (match idx s.length i with
    | some n => (match s.cps.toList[n]? with
      | some v => Q (.str ⟨#[v]⟩)
      | Option.none => False)
    | Option.none => False) := rfl
@[local simp] theorem sb_ref {H : AH} {Q : V → Prop} {a : Nat} {k : V} : subV H (.ref a) k Q = (match H a with
    | some (.dict kvs) => keyP k fun ks => (match dlook ks kvs with
      | some v => Q v
      | Option.none => False)
    | some (.list vs) => (match k with
      | .int i => (match idx vs.length i with
        | some n => (match vs[n]? with
          | some v => Q v
          | Option.none => False)
        | Option.none => False)
      | _ => False)
    | _ => False) := rfl
@[local simp] theorem sl_str {H : AH} {Q : V → Prop} {s : Str} {lo hi : V} : sliceV H (.str s) lo hi Q = (match bnd s.length 0 lo, bnd s.length s.length hi with
    | some l, some h => Q (.str ⟨(cutL s.cps.toList l h).toArray⟩)
    | _, _ => False) := rfl
@[local simp] theorem sl_lst {H : AH} {Q : V → Prop} {vs : List V} {lo hi : V} : sliceV H (.lst vs) lo hi Q = (match bnd vs.length 0 lo, bnd vs.length vs.length hi with
    | some l, some h => Q (.lst (cutL vs l h))
    | _, _ => False) := rfl
theorem fl_nil {t : Tg} {W : St → (Fl → St → Prop) → Prop} {Q : Fl → St → Prop} {st : St} : forL t W Q [] st = Q .next st := rfl
theorem fl_cons {t : Tg} {W : St → (Fl → St → Prop) → Prop} {Q : Fl → St → Prop} {st : St} {x : V} {xs : List V} : forL t W Q (x :: xs) st = (match bindT t x st.ρ with
    | some ρ' => W { st with ρ := ρ' } (fun f st' => match f with
      | .next | .cont => forL t W Q xs st'
      | .brk => Q .next st'
      | .ret v => Q (.ret v) st')
    | Option.none => False) := rfl
theorem wn_zero {T : St → (Bool → Prop) → Prop} {W : St → (Fl → St → Prop) → Prop} {Q : Fl → St → Prop} {st : St} : whileN T W Q 0 st = False := rfl
theorem wn_succ {T : St → (Bool → Prop) → Prop} {W : St → (Fl → St → Prop) → Prop} {Q : Fl → St → Prop} {st : St} {n : Nat} : whileN T W Q (n + 1) st = (T st fun b => if b then W st (fun f st' => match f with
      | .next | .cont => whileN T W Q n st'
      | .brk => Q .next st'
      | .ret v => Q (.ret v) st') else Q .next st) := rfl
@[local simp] theorem stv {H B : AH} {ad : Nat} {i : Int} {P : Nat → List V → Nat → Prop} : setV H B (.ref ad) (.int i) P = (B ad = Option.none ∧ 0 ≤ i ∧ ∃ vs, H ad = some (.list vs) ∧ i < vs.length ∧ P ad vs i.toNat) := rfl
@[local simp] theorem i2r {i j : Int} {P : Int → Int → Prop} : int2 [.int i, .int j] P = P i j := rfl
@[local simp] theorem s1r {H : AH} {vs : List V} {P : Int → Prop} : sum1 H [.lst vs] P = intsP vs fun is => P is.sum := rfl
@[local simp] theorem rg1 {i : Int} {P : Int → Prop} : rng1 [.int i] P = (smallI i ∧ P i) := rfl
@[local simp] theorem rg2 {i j : Int} {P : Int → Int → Prop} : rng2 [.int i, .int j] P = (smallI i ∧ smallI j ∧ P i j) := rfl
@[local simp] theorem rg3 {i j k : Int} {P : Int → Int → Int → Prop} : rng3 [.int i, .int j, .int k] P = (smallI i ∧ smallI j ∧ P i j k) := rfl
@[local simp] theorem rp_lst {H : AH} {vs : List V} {P : List V → Prop} : rowP H (.lst vs) P = P vs := rfl
@[local simp] theorem rp_tup {H : AH} {vs : List V} {P : List V → Prop} : rowP H (.tup vs) P = P vs := rfl
@[local simp] theorem sqp_lst {H : AH} {vs : List V} {P : List V → Prop} : seqP H (.lst vs) P = P vs := rfl
@[local simp] theorem ip_int {i : Int} {P : Int → Prop} : intP (.int i) P = P i := rfl
@[local simp] theorem iov_str {s : Str} {Q : V → Prop} : intOfV (.str s) Q = (allDigits s.cps.toList = true ∧ 0 < s.length ∧ s.length ≤ 100 ∧ Q (.int (digitsVal s.cps.toList))) := rfl
@[local simp] theorem iov_bool {b : Bool} {Q : V → Prop} : intOfV (.bool b) Q = Q (.int (if b then 1 else 0)) := rfl
theorem dp_none  : PyData.depth .none = 0 := rfl
theorem dp_int {i : Int} : PyData.depth (.int i) = 0 := rfl
theorem dp_bool {b : Bool} : PyData.depth (.bool b) = 0 := rfl
theorem dp_str {s : Str} : PyData.depth (.str s) = 0 := rfl
theorem dp_list {xs : List PyData} : PyData.depth (.list xs) = PyData.depthAll xs + 1 := rfl
theorem dp_tup {xs : List PyData} : PyData.depth (.tuple xs) = PyData.depthAll xs + 1 := rfl
theorem da_nil  : PyData.depthAll [] = 0 := rfl
theorem da_cons {x : PyData} {xs : List PyData} : PyData.depthAll (x :: xs) = max (PyData.depth x) (PyData.depthAll xs) := rfl
theorem ev_int {i j : Int} : PyData.eqv (.int i) (.int j) = (i == j) := rfl
theorem ev_str {s t : Str} : PyData.eqv (.str s) (.str t) = (s == t) := rfl
theorem ev_bool {b c : Bool} : PyData.eqv (.bool b) (.bool c) = (b == c) := rfl
theorem ev_none  : PyData.eqv .none .none = true := rfl
theorem ev_list {x y : List PyData} : PyData.eqv (.list x) (.list y) = PyData.eqvAll x y := rfl
theorem ev_tup {x y : List PyData} : PyData.eqv (.tuple x) (.tuple y) = PyData.eqvAll x y := rfl
theorem ea_nil  : PyData.eqvAll [] [] = true := rfl
theorem ea_cons {a b : PyData} {x y : List PyData} : PyData.eqvAll (a :: x) (b :: y) = (PyData.eqv a b && PyData.eqvAll x y) := rfl

section
set_option linter.unusedSimpArgs false
set_option autoImplicit false
namespace Lib
open PySem Mine

noncomputable def F_is_whole : Fn := ⟨1, ["thing"], 1,
  (.cons (.ret (.and (.isinst (.var 0) .int) (.not (.isinst (.var 0) .bool))))
  .nil)⟩
noncomputable def F_is_text : Fn := ⟨1, ["thing", "sign"], 2,
  (.cons (.ite (.not (.isinst (.var 0) .str)) (.cons (.ret (.bool false))
    .nil) .nil)
  (.cons (.for (.var 1) (.seq (.var 0)) (.cons (.ite (.cmp (.var 1) (.one .notin (.glob "SIGNS"))) (.cons (.ret (.bool false))
      .nil) .nil)
    .nil))
  (.cons (.ret (.bool true))
  .nil)))⟩
noncomputable def F_is_symbol : Fn := ⟨2, ["thing", "below"], 2,
  (.cons (.ite (.call "is_whole" (.cons (.var 0) .nil)) (.cons (.ret (.cmp (.int 0) (.more .le (.var 0) (.one .lt (.var 1)))))
    .nil) .nil)
  (.cons (.ret (.and (.call "is_text" (.cons (.var 0) .nil)) (.cmp (.len (.var 0)) (.one .eq (.int 1)))))
  .nil))⟩
noncomputable def F_is_rule : Fn := ⟨2, ["rule", "number"], 2,
  (.cons (.ite (.or (.not (.isinst (.var 0) .tuple)) (.cmp (.len (.var 0)) (.one .ne (.int 2)))) (.cons (.ret (.bool false))
    .nil) .nil)
  (.cons (.ret (.and (.call "is_symbol" (.cons (.sub (.var 0) (.int 0)) (.cons (.var 1) .nil))) (.call "is_symbol" (.cons (.sub (.var 0) (.int 1)) (.cons (.var 1) .nil)))))
  .nil))⟩
noncomputable def F_need_book : Fn := ⟨1, ["book", "rules", "row", "number", "symbol"], 5,
  (.cons (.ite (.or (.not (.isinst (.var 0) .tuple)) (.cmp (.len (.var 0)) (.one .ne (.int 2)))) (.cons (.raise "NoBook" (.str (Str.ofString "no pair")))
    .nil) .nil)
  (.cons (.assign (.var 1) (.sub (.var 0) (.int 0)))
  (.cons (.assign (.var 2) (.sub (.var 0) (.int 1)))
  (.cons (.ite (.or (.not (.isinst (.var 1) .list)) (.not (.isinst (.var 2) .list))) (.cons (.raise "NoBook" (.str (Str.ofString "no two lists")))
    .nil) .nil)
  (.cons (.ite (.or (.cmp (.len (.var 1)) (.one .gt (.glob "MOST_RULES"))) (.cmp (.len (.var 2)) (.one .gt (.glob "MOST_ROW")))) (.cons (.raise "NoBook" (.str (Str.ofString "too long")))
    .nil) .nil)
  (.cons (.for (.var 3) (.range1 (.len (.var 1))) (.cons (.ite (.not (.call "is_rule" (.cons (.sub (.var 1) (.var 3)) (.cons (.var 3) .nil)))) (.cons (.raise "NoBook" (.str (Str.ofString "no rule")))
      .nil) .nil)
    .nil))
  (.cons (.for (.var 4) (.seq (.var 2)) (.cons (.ite (.not (.call "is_symbol" (.cons (.var 4) (.cons (.len (.var 1)) .nil)))) (.cons (.raise "NoBook" (.str (Str.ofString "no symbol")))
      .nil) .nil)
    .nil))
  (.cons (.ret (.var 0))
  .nil))))))))⟩
noncomputable def F_written_out : Fn := ⟨1, ["book", "waiting", "signs", "symbol"], 4,
  (.cons (.expr (.call "need_book" (.cons (.var 0) .nil)))
  (.cons (.own 1 (.thaw (.listOf (.rev (.sub (.var 0) (.int 1))))))
  (.cons (.own 2 (.list .nil))
  (.cons (.while (.cmp (.len (.var 1)) (.one .gt (.int 0))) (.cons (.pop (.var 3) (.var 1))
    (.cons (.ite (.isinst (.var 3) .str) (.cons (.append (.var 2) (.pure (.var 3)))
      .nil) (.cons (.append (.var 1) (.pure (.sub (.sub (.sub (.var 0) (.int 0)) (.var 3)) (.int 1))))
      (.cons (.append (.var 1) (.pure (.sub (.sub (.sub (.var 0) (.int 0)) (.var 3)) (.int 0))))
      .nil)))
    .nil)))
  (.cons (.ret (.join (.str (Str.ofString "")) (.var 2)))
  .nil)))))⟩
noncomputable def F_law_cell_at : Fn := ⟨2, ["_law_script", "_law_k"], 2,
  (.cons (.ite (.cmp (.var 1) (.one .lt (.len (.var 0)))) (.cons (.ret (.sub (.var 0) (.var 1)))
    .nil) .nil)
  (.cons (.ret (.int 0))
  .nil))⟩
noncomputable def F_law_sign_by : Fn := ⟨1, ["_law_cell", "_law_some"], 2,
  (.cons (.assign (.var 1) (.str (Str.ofString " !\"#$&'()*+,-./0123456789:;<=>?@ABCDEFGHIJKLMNOPQRSTUVWXYZ[\\]^_`")))
  (.cons (.assign (.var 1) (.bin .add (.var 1) (.str (Str.ofString "abcdefghijklmnopqrstuvwxyz{|}~\n"))))
  (.cons (.ret (.sub (.var 1) (.bin .mod (.var 0) (.int 95))))
  .nil)))⟩
noncomputable def F_law_symbol_by : Fn := ⟨3, ["_law_cell", "_law_many", "_law_first"], 3,
  (.cons (.ite (.or (.cmp (.var 1) (.one .eq (.int 0))) (.cmp (.bin .mod (.var 0) (.int 3)) (.one .eq (.int 0)))) (.cons (.ret (.call "_law_sign_by" (.cons (.bin .add (.var 2) (.bin .mul (.bin .mod (.bin .fdiv (.var 0) (.int 3)) (.int 3)) (.bin .add (.int 1) (.bin .mod (.bin .fdiv (.var 2) (.int 95)) (.int 94))))) .nil)))
    .nil) .nil)
  (.cons (.ite (.cmp (.bin .mod (.var 0) (.int 3)) (.one .eq (.int 1))) (.cons (.ret (.bin .sub (.var 1) (.int 1)))
    .nil) .nil)
  (.cons (.ret (.bin .mod (.bin .fdiv (.var 0) (.int 3)) (.var 1)))
  .nil)))⟩
noncomputable def F_law_book_by : Fn := ⟨2, ["_law_cells", "_law_first", "_law_rules", "_law_row", "_law_cell", "_law_one"], 6,
  (.cons (.own 2 (.list .nil))
  (.cons (.own 3 (.list .nil))
  (.cons (.for (.var 4) (.seq (.var 0)) (.cons (.ite (.cmp (.bin .mod (.var 4) (.int 3)) (.one .lt (.int 2))) (.cons (.assign (.var 5) (.call "_law_symbol_by" (.cons (.bin .fdiv (.var 4) (.int 3)) (.cons (.len (.var 2)) (.cons (.var 1) .nil)))))
      (.cons (.append (.var 2) (.pure (.tup (.cons (.var 5) (.cons (.call "_law_symbol_by" (.cons (.bin .fdiv (.var 4) (.int 47)) (.cons (.len (.var 2)) (.cons (.var 1) .nil)))) .nil)))))
      .nil)) (.cons (.append (.var 3) (.pure (.call "_law_symbol_by" (.cons (.bin .fdiv (.var 4) (.int 3)) (.cons (.len (.var 2)) (.cons (.var 1) .nil))))))
      .nil))
    .nil))
  (.cons (.ret (.tup (.cons (.var 2) (.cons (.var 3) .nil))))
  .nil))))⟩
noncomputable def SIGNS : Str := Str.ofString " !\"#$&'()*+,-./0123456789:;<=>?@ABCDEFGHIJKLMNOPQRSTUVWXYZ[\\]^_`abcdefghijklmnopqrstuvwxyz{|}~\n"
noncomputable def SG : List Nat := SIGNS.cps.toList

theorem call_of {tbl : Tbl} {gl : List (String × V)} {cls : Clss} {d : Nat} {f : String} {fn : Fn} {args : List V} {H : AH} {Q : V → Prop} {X : String → Prop} (h : tbl.lookup f = some fn) (h1 : args.length = fn.np) (h2 : fn.np ≤ fn.nv)
    (h3 : WB (cxN tbl gl cls d) fn.body ⟨args.map some ++ List.replicate (fn.nv - fn.np) none, H, H⟩ (PK H Q) (fun x _ => X x)) : (cxN tbl gl cls (d + 1)).call f args H Q X := by
  show runN tbl gl cls (d + 1) f args H (fun v H' => match frz H' H 8 v with
    | some v' => Q v'
    | none => False) X
  unfold runN
  rw [h]
  refine ⟨h1, h2, ?_⟩
  have e : (fun (fl : Fl) (st : St) => (match fl with
      | .ret v => (match frz st.H H 8 v with
        | some v' => Q v'
        | none => False)
      | .next => (match frz st.H H 8 .none with
        | some v' => Q v'
        | none => False)
      | _ => False)) = PK H Q := by
    funext fl st
    cases fl <;> rfl
  exact e ▸ h3

inductive Sy where
  | ch (c : Nat)
  | ru (k : Nat)
noncomputable def Sy.v : Sy → V
  | .ch c => .str ⟨#[c]⟩
  | .ru k => .int k
theorem has_sign : ∀ c ∈ SG, hasSub SIGNS ⟨#[c]⟩ = true := by decide +kernel

theorem idx_nat {n k : Nat} (h : k < n) : idx n (k : Int) = some k := by
  unfold idx
  rw [if_pos (by omega), if_pos (by omega)]
  simp
theorem eqV_int {H : AH} {a b : Int} {Q : Bool → Prop} : eqV H (.int a) (.int b) Q = Q (decide (a = b)) := by
  have e : (a == b) = decide (a = b) := by rw [Bool.eq_iff_iff]; simp
  simp [eqV, rv_none, rv_bool, rv_int, rv_str, rv_tup, rv_lst, rv_ref, rv_inst, rv_iref, rv_exc, rv_dct, td_none, td_bool, td_int, td_str, td_tup, td_lst, td_ref, td_inst, td_iref, td_exc, td_dct, dp_none, dp_int, dp_bool, dp_str, dp_list, dp_tup, ev_int, ev_str, ev_bool, ev_none, ev_list, ev_tup, e]
section
variable {tbl : Tbl} {gl : List (String × V)} {cls : Clss} {d : Nat} {H : AH} {Q : V → Prop} {X : String → Prop}

theorem upL_nil {a b : Int} (h : b ≤ a) : upL a b = [] := by
  unfold upL
  have : (b - a).toNat = 0 := by omega
  simp [this]
theorem upL_cons {a b : Int} (h : a < b) : upL a b = .int a :: upL (a + 1) b := by
  unfold upL
  have : (b - a).toNat = (b - (a + 1)).toNat + 1 := by omega
  rw [this, List.range_succ_eq_map]
  simp only [List.map_cons, List.map_map, List.cons.injEq]
  refine ⟨by simp, List.map_congr_left fun k _ => ?_⟩
  simp only [Function.comp]
  congr 1
  omega

end

end Lib
end

section
set_option autoImplicit false
set_option linter.unusedSimpArgs false
set_option linter.unusedVariables false
namespace Lib
open PySem Mine

/-! the texts of a book's rules -/
noncomputable def lst (l : List Nat) : V := .str ⟨l.toArray⟩

end Lib
end

section
set_option autoImplicit false
set_option linter.unusedSimpArgs false
set_option linter.unusedVariables false
namespace Lib
open PySem Mine

section
variable {tbl : Tbl} {gl : List (String × V)} {cls : Clss} {d : Nat} {H : AH} {Q : V → Prop} {X : String → Prop}

theorem fm (a : Int) {b : Int} (h : 0 < b) : 0 ≤ a.fmod b ∧ a.fmod b < b := ⟨Int.fmod_nonneg_of_pos a h, Int.fmod_lt_of_pos a h⟩

end

end Lib
end

section
set_option autoImplicit false
set_option linter.unusedSimpArgs false
set_option linter.unusedVariables false
namespace Lib
open PySem Mine

section
variable {tbl : Tbl} {gl : List (String × V)} {cls : Clss} {d : Nat} {H : AH} {Q : V → Prop} {X : String → Prop}

end

end Lib
end

section
set_option autoImplicit false
set_option linter.unusedSimpArgs false
set_option linter.unusedVariables false
namespace Lib
open PySem Mine

noncomputable def S1 (l : List Nat) : Str := ⟨l.toArray⟩
section
variable {tbl : Tbl} {gl : List (String × V)} {cls : Clss} {d : Nat} {H : AH} {Q : V → Prop} {X : String → Prop}

end

end Lib
end

section
set_option autoImplicit false
set_option linter.unusedSimpArgs false
set_option linter.unusedVariables false
namespace Lib
open PySem Mine

noncomputable def ones (l : List Nat) : List V := l.map fun c => V.str ⟨#[c]⟩
end Lib
end

section
set_option autoImplicit false
set_option linter.unusedSimpArgs false
set_option linter.unusedVariables false
namespace Lib
open PySem Mine

theorem eqV_str {H : AH} {s t : Str} {Q : Bool → Prop} : eqV H (.str s) (.str t) Q = Q (decide (s = t)) := by
  have e : (s == t) = decide (s = t) := by rw [Bool.eq_iff_iff]; simp
  simp [eqV, rv_none, rv_bool, rv_int, rv_str, rv_tup, rv_lst, rv_ref, rv_inst, rv_iref, rv_exc, rv_dct, td_none, td_bool, td_int, td_str, td_tup, td_lst, td_ref, td_inst, td_iref, td_exc, td_dct, dp_none, dp_int, dp_bool, dp_str, dp_list, dp_tup, ev_int, ev_str, ev_bool, ev_none, ev_list, ev_tup, e]
end Lib
end

section
set_option autoImplicit false
set_option linter.unusedSimpArgs false
set_option linter.unusedVariables false
namespace Lib
open PySem Mine
/-! what an expression gives: small steps, the rest shut -/
noncomputable def Ev (C : Cx) (st : St) (e : E) (w : V) : Prop := ∀ (Q : V → Prop) (X : String → Prop), Q w → WE C e st Q X
noncomputable def Evs (C : Cx) (st : St) (e : Es) (w : List V) : Prop := ∀ (Q : List V → Prop) (X : String → Prop), Q w → WEs C e st Q X
noncomputable def Ec (C : Cx) (st : St) (c : Ch) (u : V) (b : Bool) : Prop := ∀ (Q : Bool → Prop) (X : String → Prop), Q b → WCh C c st u Q X
noncomputable def Cm (H : AH) (op : Cop) (u v : V) (b : Bool) : Prop := ∀ Q : Bool → Prop, Q b → cmpV H op u v Q
noncomputable def Sb (H : AH) (u k w : V) : Prop := ∀ Q : V → Prop, Q w → subV H u k Q
noncomputable def Ca (C : Cx) (f : String) (vs : List V) (H : AH) (w : V) : Prop := ∀ (Q : V → Prop) (X : String → Prop), Q w → C.call f vs H Q X
noncomputable def Ei (C : Cx) (st : St) (it : It) (vs : List V) (ds : List Nat) : Prop := ∀ (Q : List V → List Nat → Prop) (X : String → Prop), Q vs ds → WI C it st Q X
section
variable {C : Cx} {st : St} {ρ : List (Option V)} {H B : AH}
theorem ev_none : Ev C st .none .none := fun _ _ h => h
theorem ev_bool {b : Bool} : Ev C st (.bool b) (.bool b) := fun _ _ h => h
theorem ev_int {i : Int} : Ev C st (.int i) (.int i) := fun _ _ h => h
theorem ev_str {s : Str} : Ev C st (.str s) (.str s) := fun _ _ h => h
theorem ev_var {i : Nat} {v : V} (h : ρ[i]? = some (some v)) : Ev C ⟨ρ, H, B⟩ (.var i) v := fun Q X q => by
  show (match ρ[i]? with
    | some (some v) => Q v
    | _ => False)
  rw [h]; exact q
theorem ev_glob {x : String} {v : V} (h : C.glob x = some v) : Ev C st (.glob x) v := fun Q X q => by
  show (match C.glob x with
    | some v => Q v
    | Option.none => False)
  rw [h]; exact q
theorem ev_bin {op : Bop} {a b : E} {u v w : V} (ha : Ev C st a u) (hb : Ev C st b v) (hw : ∀ Q : V → Prop, Q w → binV st.H op u v Q) : Ev C st (.bin op a b) w := fun Q X q => ha _ _ (hb _ _ (hw _ q))
theorem ev_add {a b : E} {i j : Int} (ha : Ev C st a (.int i)) (hb : Ev C st b (.int j)) : Ev C st (.bin .add a b) (.int (i + j)) := ev_bin ha hb fun _ q => q
theorem ev_sb {a b : E} {i j : Int} (ha : Ev C st a (.int i)) (hb : Ev C st b (.int j)) : Ev C st (.bin .sub a b) (.int (i - j)) := ev_bin ha hb fun _ q => q
theorem ev_fdiv {a b : E} {i j : Int} (ha : Ev C st a (.int i)) (hb : Ev C st b (.int j)) (h : j ≠ 0) : Ev C st (.bin .fdiv a b) (.int (i.fdiv j)) := ev_bin ha hb fun _ q => ⟨h, q⟩
theorem ev_mod {a b : E} {i j : Int} (ha : Ev C st a (.int i)) (hb : Ev C st b (.int j)) (h : j ≠ 0) : Ev C st (.bin .mod a b) (.int (i.fmod j)) := ev_bin ha hb fun _ q => ⟨h, q⟩
theorem ev_mul {a b : E} {i j : Int} (ha : Ev C st a (.int i)) (hb : Ev C st b (.int j)) (h : i.natAbs < 2 ^ 62 ∨ j.natAbs < 2 ^ 62) : Ev C st (.bin .mul a b) (.int (i * j)) := ev_bin ha hb fun _ q => ⟨h, q⟩
theorem ev_cat {a b : E} {s t : Str} (ha : Ev C st a (.str s)) (hb : Ev C st b (.str t)) (h : s.length + t.length ≤ sizeLine) : Ev C st (.bin .add a b) (.str (s ++ t)) := ev_bin ha hb fun _ q => ⟨h, q⟩
theorem ev_neg {a : E} {i : Int} (ha : Ev C st a (.int i)) : Ev C st (.neg a) (.int (-i)) := fun Q X q => ha _ _ q
theorem ev_not {a : E} {b : Bool} (ha : Ev C st a (.bool b)) : Ev C st (.not a) (.bool !b) := fun Q X q => ha _ _ q
theorem ev_and {a b : E} {p q : Bool} (ha : Ev C st a (.bool p)) (hb : p = true → Ev C st b (.bool q)) : Ev C st (.and a b) (.bool (p && q)) := fun Q X h => ha _ _ (by cases p; exact h; exact hb rfl _ _ h)
theorem ev_or {a b : E} {p q : Bool} (ha : Ev C st a (.bool p)) (hb : p = false → Ev C st b (.bool q)) : Ev C st (.or a b) (.bool (p || q)) := fun Q X h => ha _ _ (by cases p; exact hb rfl _ _ h; exact h)
theorem evs_nil : Evs C st .nil [] := fun _ _ q => q
theorem evs_cons {e : E} {es : Es} {v : V} {vs : List V} (h : Ev C st e v) (hs : Evs C st es vs) : Evs C st (.cons e es) (v :: vs) := fun _ _ q => h _ _ (hs _ _ q)
theorem ev_list {es : Es} {vs : List V} (h : Evs C st es vs) (hn : Nat.ble vs.length 16777216 = true) : Ev C st (.list es) (.lst vs) := fun _ _ q => h _ _ ⟨Nat.le_of_ble_eq_true hn, q⟩
theorem ev_tup {es : Es} {vs : List V} (h : Evs C st es vs) (hn : Nat.ble vs.length 16777216 = true) : Ev C st (.tup es) (.tup vs) := fun _ _ q => h _ _ ⟨Nat.le_of_ble_eq_true hn, q⟩
theorem ev_cmp {a : E} {c : Ch} {u : V} {b : Bool} (ha : Ev C st a u) (hc : Ec C st c u b) : Ev C st (.cmp a c) (.bool b) := fun _ _ q => ha _ _ (hc _ _ q)
theorem ec_one {op : Cop} {e : E} {u v : V} {b : Bool} (he : Ev C st e v) (hc : Cm st.H op u v b) : Ec C st (.one op e) u b := fun _ _ q => he _ _ (hc _ q)
theorem ec_more {op : Cop} {e : E} {c : Ch} {u v : V} {p q : Bool} (he : Ev C st e v) (hc : Cm st.H op u v p) (h2 : p = true → Ec C st c v q) : Ec C st (.more op e c) u (p && q) := fun _ _ h => he _ _ (hc _ (by cases p; exact h; exact h2 rfl _ _ h))
theorem cm_lt {i j : Int} : Cm H .lt (.int i) (.int j) (decide (i < j)) := fun _ q => q
theorem cm_le {i j : Int} : Cm H .le (.int i) (.int j) (decide (i ≤ j)) := fun _ q => q
theorem cm_gt {i j : Int} : Cm H .gt (.int i) (.int j) (decide (i > j)) := fun _ q => q
theorem cm_ge {i j : Int} : Cm H .ge (.int i) (.int j) (decide (i ≥ j)) := fun _ q => q
theorem cm_eq {i j : Int} : Cm H .eq (.int i) (.int j) (decide (i = j)) := fun Q q => (show eqV H (.int i) (.int j) Q from by rw [eqV_int]; exact q)
theorem cm_ne {i j : Int} : Cm H .ne (.int i) (.int j) (!decide (i = j)) := fun Q q => (show eqV H (.int i) (.int j) (fun r => Q (!r)) from by rw [eqV_int]; exact q)
theorem cm_is {u : V} : Cm H .is u .none (isNone u) := fun _ q => q
theorem cm_isnot {u : V} : Cm H .isnot u .none (!isNone u) := fun _ q => q
theorem ev_sub {a i : E} {u k w : V} (ha : Ev C st a u) (hi : Ev C st i k) (hs : Sb st.H u k w) : Ev C st (.sub a i) w := fun _ _ q => ha _ _ (hi _ _ (hs _ q))
theorem sb_lst {vs : List V} {n : Nat} {w : V} (h : vs[n]? = some w) : Sb H (.lst vs) (.int n) w := fun Q q => by
  show (match idx vs.length (n : Int) with
    | some n => (match vs[n]? with
      | some v => Q v
      | Option.none => False)
    | Option.none => False)
  rw [idx_nat (List.getElem?_eq_some_iff.mp h).1]
  show (match vs[n]? with
      | some v => Q v
      | Option.none => False)
  rw [h]; exact q
theorem sb_tup {vs : List V} {n : Nat} {w : V} (h : vs[n]? = some w) : Sb H (.tup vs) (.int n) w := fun Q q => sb_lst (H := H) h Q q
theorem sb_ref {a : Nat} {vs : List V} {n : Nat} {w : V} (ha : H a = some (.list vs)) (h : vs[n]? = some w) : Sb H (.ref a) (.int n) w := fun Q q => by
  show (match H a with
    | some (.dict kvs) => _
    | some (.list vs) => _
    | _ => False)
  rw [ha]
  exact sb_lst (H := H) h Q q
theorem ev_call {f : String} {es : Es} {vs : List V} {w : V} (he : Evs C st es vs) (hc : Ca C f vs st.H w) : Ev C st (.call f es) w := fun _ _ q => he _ _ (hc _ _ q)
theorem ev_isi {a : E} {t : Ty} {u : V} {b : Bool} (ha : Ev C st a u) (h : isT st.H t u = some b) : Ev C st (.isinst a t) (.bool b) := fun Q _ q => ha _ _ (by
  show (match isT st.H t u with
    | some b => Q (.bool b)
    | Option.none => False)
  rw [h]; exact q)
theorem ev_len {a : E} {u : V} {n : Nat} (ha : Ev C st a u) (h : sizeV st.H u = some n) : Ev C st (.len a) (.int n) := fun Q _ q => ha _ _ (by
  show (match sizeV st.H u with
    | some n => Q (.int n)
    | Option.none => False)
  rw [h]; exact q)
theorem ev_max2 {a b : E} {i j : Int} (ha : Ev C st a (.int i)) (hb : Ev C st b (.int j)) : Ev C st (.max2 a b) (.int (max i j)) := fun Q _ q => ha _ _ (hb _ _ (by
  show Q (.int (if j > i then j else i))
  rw [show (if j > i then j else i) = max i j from by split <;> omega]; exact q))
theorem ev_intOf {a : E} {b : Bool} (ha : Ev C st a (.bool b)) : Ev C st (.intOf a) (.int (if b then 1 else 0)) := fun _ _ q => ha _ _ q
theorem ei_seq {e : E} {u : V} {vs : List V} (he : Ev C st e u) (h : itemsV st.H u = some vs) : Ei C st (.seq e) vs (depsV u) := fun Q _ q => he _ _ (by
  show (match itemsV st.H u with
    | some vs => Q vs (depsV u)
    | Option.none => False)
  rw [h]; exact q)
theorem ei_range1 {e : E} {i : Int} (he : Ev C st e (.int i)) (h : smallI i) : Ei C st (.range1 e) (upL 0 i) [] := fun Q _ q => he _ _ ⟨h, q⟩
theorem ev_listOf {it : It} {vs : List V} {ds : List Nat} (h : Ei C st it vs ds) (hn : vs.length ≤ sizeLine) : Ev C st (.listOf it) (.lst vs) := fun Q _ q => h _ _ ⟨hn, q⟩
theorem ev_join {s a : E} {u : V} {t : Str} {vs : List V} {ss : List Str} (hs : Ev C st s (.str t)) (ha : Ev C st a u) (h1 : seqL st.H u = some vs) (h2 : strsOf vs = some ss) (h3 : lenAll ss + t.length * ss.length ≤ sizeLine) : Ev C st (.join s a) (.str (Str.join t ss)) := fun Q _ q => hs _ _ (ha _ _ (by
  show (match (V.str t), (seqL st.H u).bind strsOf with
    | .str s, some ss => lenAll ss + s.length * ss.length ≤ sizeLine ∧ Q (.str (Str.join s ss))
    | _, _ => False)
  rw [h1]
  show (match (V.str t), strsOf vs with
    | .str s, some ss => lenAll ss + s.length * ss.length ≤ sizeLine ∧ Q (.str (Str.join s ss))
    | _, _ => False)
  rw [h2]; exact ⟨h3, q⟩))
theorem ev_comp {elt : E} {i : Nat} {it : It} {α : Type} {v g : α → V} {r : List α} {ds : List Nat} (hi : Ei C ⟨ρ, H, B⟩ it (r.map v) ds) (hl : r.length ≤ sizeLine) (hlt : i < ρ.length) (he : ∀ x ∈ r, Ev C ⟨ρ.set i (some (v x)), H, B⟩ elt (g x)) : Ev C ⟨ρ, H, B⟩ (.comp elt (.var i) it) (.lst (r.map g)) := fun Q X q => by
  refine hi _ _ ⟨by rw [List.length_map]; exact hl, ?_⟩
  have key : ∀ (r : List α) (K : List V → Prop), (∀ x ∈ r, Ev C ⟨ρ.set i (some (v x)), H, B⟩ elt (g x)) → K (r.map g) → compL (fun x k => match bindT (.var i) x ρ with
        | some ρ' => WE C elt ⟨ρ', H, B⟩ (fun y => k (some y)) (fun _ => False)
        | Option.none => False) (r.map v) K := by
    intro r
    induction r with
    | nil => intro K _ h; exact h
    | cons x r ih =>
      intro K h1 h2
      show (match bindT (.var i) (v x) ρ with
        | some ρ' => WE C elt ⟨ρ', H, B⟩ _ (fun _ => False)
        | Option.none => False)
      have : bindT (.var i) (v x) ρ = some (ρ.set i (some (v x))) := by show putV _ _ _ = _; unfold putV; rw [if_pos hlt]
      rw [this]
      exact h1 x (List.mem_cons_self ..) _ _ (ih _ (fun y hy => h1 y (List.mem_cons_of_mem _ hy)) h2)
  exact key r _ he q
theorem ev_sum {a : E} {u : V} {vs : List V} {is : List Int} (ha : Ev C st a u) (h : seqL st.H u = some vs) (h2 : intsOf vs = some is) : Ev C st (.sum a) (.int is.sum) := fun Q _ q => ha _ _ (by
  show seqP st.H u _
  unfold seqP; rw [h]
  show intsP vs _
  unfold intsP; rw [h2]; exact q)
/-! statements -/
noncomputable def Kn (C : Cx) (r : Bl) (Q : Fl → St → Prop) (X : String → St → Prop) : Fl → St → Prop := fun f st' => match f with
    | .next => WB C r st' Q X
    | f => Q f st'
noncomputable def Fo (C : Cx) (t : Tg) (b r : Bl) (Q : Fl → St → Prop) (X : String → St → Prop) (xs : List V) (st : St) : Prop := forL t (fun st' K => WB C b st' K X) (Kn C r Q X) xs st
noncomputable def Kf (C : Cx) (t : Tg) (b r : Bl) (Q : Fl → St → Prop) (X : String → St → Prop) (xs : List V) : Fl → St → Prop := fun f st' => match f with
      | .next | .cont => Fo C t b r Q X xs st'
      | .brk => Kn C r Q X .next st'
      | .ret v => Kn C r Q X (.ret v) st'
variable {Q : Fl → St → Prop} {X : String → St → Prop} {b r : Bl}
theorem kn_nil (h : WB C r st Q X) : WB C .nil st (Kn C r Q X) X := h
theorem kf_nil {t : Tg} {xs : List V} (h : Fo C t b r Q X xs st) : WB C .nil st (Kf C t b r Q X xs) X := h
theorem w_asg {i : Nat} {e : E} {w : V} (he : Ev C ⟨ρ, H, B⟩ e w) (hi : Nat.blt i ρ.length = true) (hb : WB C b ⟨ρ.set i (some w), H, B⟩ Q X) : WB C (.cons (.assign (.var i) e) b) ⟨ρ, H, B⟩ Q X := he _ _ (by
  show (match (match putV i w ρ with
    | some ρ' => _
    | none => False) with
    | p => p)
  unfold putV; rw [if_pos (Nat.blt_eq.mp hi)]; exact hb)
theorem w_own0 {i : Nat} (hi : Nat.blt i ρ.length = true) (hb : ∀ a, H a = none → B a = none → WB C b ⟨ρ.set i (some (.ref a)), H.upd a (.list []), B⟩ Q X) : WB C (.cons (.own i (.list .nil)) b) ⟨ρ, H, B⟩ Q X := by
  refine ⟨by decide, fun a h1 h2 => ?_⟩
  show (match (match putV i (.ref a) ρ with
    | some ρ' => _
    | none => False) with
    | p => p)
  unfold putV; rw [if_pos (Nat.blt_eq.mp hi)]; exact hb a h1 h2
theorem w_app {i a : Nat} {e : E} {vs : List V} {w : V} (hx : ρ[i]? = some (some (.ref a))) (ha : H a = some (.list vs)) (hB : B a = none) (he : Ev C ⟨ρ, H, B⟩ e w) (hl : vs.length < sizeLine) (hb : WB C b ⟨ρ, H.upd a (.list (vs ++ [w])), B⟩ Q X) : WB C (.cons (.append (.var i) (.pure e)) b) ⟨ρ, H, B⟩ Q X := by
  refine ev_var (C := C) (H := H) (B := B) hx _ (fun x => X x ⟨ρ, H, B⟩) ?_
  show (match H a with
      | some (.list _) => _
      | _ => False)
  rw [ha]
  refine he _ _ ?_
  show (match H a with
        | some (.list vs) => _
        | _ => False)
  rw [ha]
  exact ⟨hB, hl, hb⟩
theorem w_pop {t : Tg} {i a : Nat} {vs : List V} {w : V} {ρ' : List (Option V)} (hx : ρ[i]? = some (some (.ref a))) (ha : H a = some (.list (vs ++ [w]))) (hB : B a = none) (ht : bindT t w ρ = some ρ') (hb : WB C b ⟨ρ', H.upd a (.list vs), B⟩ Q X) : WB C (.cons (.pop t (.var i)) b) ⟨ρ, H, B⟩ Q X := by
  refine ev_var (C := C) (H := H) (B := B) hx _ (fun x => X x ⟨ρ, H, B⟩) ?_
  show (match H a with
      | some (.list vs) => _
      | _ => False)
  rw [ha]
  show (match (vs ++ [w]).getLast? with
        | some w => _
        | none => False)
  rw [List.getLast?_concat]
  refine ⟨hB, ?_⟩
  show (match bindT t w ρ with
          | some ρ' => _
          | none => False)
  rw [ht]
  show WB C b ⟨ρ', H.upd a (.list (vs ++ [w]).dropLast), B⟩ Q X
  rw [List.dropLast_concat]; exact hb
theorem w_if {t : E} {a a' : Bl} (p : Bool) (ht : Ev C st t (.bool p)) (h1 : p = true → WB C a st (Kn C r Q X) X) (h0 : p = false → WB C a' st (Kn C r Q X) X) : WB C (.cons (.ite t a a') r) st Q X := by
  refine ht _ _ ?_
  cases p
  · exact h0 rfl
  · exact h1 rfl
theorem w_ift {t : E} {a a' : Bl} (ht : Ev C st t (.bool true)) (h1 : WB C a st (Kn C r Q X) X) : WB C (.cons (.ite t a a') r) st Q X := ht _ _ h1
theorem w_iff {t : E} {a a' : Bl} (ht : Ev C st t (.bool false)) (h1 : WB C a' st (Kn C r Q X) X) : WB C (.cons (.ite t a a') r) st Q X := ht _ _ h1
theorem w_exp {e : E} {w : V} (he : Ev C st e w) (hb : WB C b st Q X) : WB C (.cons (.expr e) b) st Q X := he _ _ hb
theorem w_ret {e : E} {w : V} (he : Ev C st e w) (h : Q (.ret w) st) : WB C (.cons (.ret e) b) st Q X := he _ _ h
theorem w_for {t : Tg} {it : It} {xs : List V} {ds : List Nat} (hi : Ei C st it xs ds) (hq : quietB b = true ∨ ∀ a ∈ ds, st.B a ≠ Option.none) (h : Fo C t b r Q X xs st) : WB C (.cons (.for t it b) r) st Q X := hi _ _ ⟨hq, h⟩
theorem fo_nil {t : Tg} (h : WB C r st Q X) : Fo C t b r Q X [] st := h
theorem fo_cons {t : Tg} {x : V} {xs : List V} {ρ' : List (Option V)} (hb : bindT t x ρ = some ρ') (h : WB C b ⟨ρ', H, B⟩ (Kf C t b r Q X xs) X) : Fo C t b r Q X (x :: xs) ⟨ρ, H, B⟩ := by
  show (match bindT t x ρ with
    | some ρ' => WB C b ⟨ρ', H, B⟩ (Kf C t b r Q X xs) X
    | Option.none => False)
  rw [hb]; exact h
noncomputable def Wh (C : Cx) (t : E) (b r : Bl) (Q : Fl → St → Prop) (X : String → St → Prop) (n : Nat) (st : St) : Prop := whileN (fun st' K => WE C t st' (fun u => match truthV st'.H u with
      | some r => K r
      | Option.none => False) (fun x => X x st')) (fun st' K => WB C b st' K X) (Kn C r Q X) n st
noncomputable def Kw (C : Cx) (t : E) (b r : Bl) (Q : Fl → St → Prop) (X : String → St → Prop) (n : Nat) : Fl → St → Prop := fun f st' => match f with
      | .next | .cont => Wh C t b r Q X n st'
      | .brk => Kn C r Q X .next st'
      | .ret v => Kn C r Q X (.ret v) st'
theorem w_while {t : E} (n : Nat) (h : Wh C t b r Q X n st) : WB C (.cons (.while t b) r) st Q X := ⟨n, h⟩
theorem kw_nil {t : E} {n : Nat} (h : Wh C t b r Q X n st) : WB C .nil st (Kw C t b r Q X n) X := h
theorem wh_end {t : E} {n : Nat} (ht : Ev C st t (.bool false)) (h : WB C r st Q X) : Wh C t b r Q X (n + 1) st := ht _ _ h
theorem wh_step {t : E} {n : Nat} (ht : Ev C st t (.bool true)) (h : WB C b st (Kw C t b r Q X n) X) : Wh C t b r Q X (n + 1) st := ht _ _ h
end
section
variable {tbl : Tbl} {gl : List (String × V)} {cls : Clss} {d : Nat} {H H' B : AH} {Q : V → Prop} {ρ : List (Option V)}
theorem ca_of {f : String} {fn : Fn} {args : List V} {w : V} (h : tbl.lookup f = some fn) (h1 : args.length = fn.np) (h2 : fn.np ≤ fn.nv)
    (h3 : ∀ (Q : V → Prop) (X : String → Prop), Q w → WB (cxN tbl gl cls d) fn.body ⟨args.map some ++ List.replicate (fn.nv - fn.np) none, H, H⟩ (PK H Q) (fun x _ => X x)) : Ca (cxN tbl gl cls (d + 1)) f args H w := fun Q X q => call_of h h1 h2 (h3 Q X q)
theorem pk_of {v w : V} (h : frz H' H 8 v = some w) (q : Q w) : PK H Q (.ret v) ⟨ρ, H', B⟩ := by
  rw [pk_ret, h]; exact q
end
theorem upd_eq {H : AH} {a : Nat} {o : AO} : (H.upd a o) a = some o := if_pos rfl
theorem upd_ne {H : AH} {a b : Nat} {o : AO} (h : b ≠ a) : (H.upd a o) b = H b := if_neg h
theorem of_upd {H : AH} {a b : Nat} {o o' : AO} (h : (H.upd a o) b = none) : b ≠ a := fun e => by rw [e, upd_eq] at h; cases h
end Lib
end

section
set_option autoImplicit false
namespace L03
open PySem Mine

noncomputable def F_is_whole : Fn := ⟨1, ["thing"], 1,
  (.cons (.ret (.and (.isinst (.var 0) .int) (.not (.isinst (.var 0) .bool))))
  .nil)⟩
noncomputable def F_is_text : Fn := ⟨1, ["thing", "sign"], 2,
  (.cons (.ite (.not (.isinst (.var 0) .str)) (.cons (.ret (.bool false))
    .nil) .nil)
  (.cons (.for (.var 1) (.seq (.var 0)) (.cons (.ite (.cmp (.var 1) (.one .notin (.glob "SIGNS"))) (.cons (.ret (.bool false))
      .nil) .nil)
    .nil))
  (.cons (.ret (.bool true))
  .nil)))⟩
noncomputable def F_is_symbol : Fn := ⟨2, ["thing", "below"], 2,
  (.cons (.ite (.call "is_whole" (.cons (.var 0) .nil)) (.cons (.ret (.cmp (.int 0) (.more .le (.var 0) (.one .lt (.var 1)))))
    .nil) .nil)
  (.cons (.ret (.and (.call "is_text" (.cons (.var 0) .nil)) (.cmp (.len (.var 0)) (.one .eq (.int 1)))))
  .nil))⟩
noncomputable def F_is_rule : Fn := ⟨2, ["rule", "number"], 2,
  (.cons (.ite (.or (.not (.isinst (.var 0) .tuple)) (.cmp (.len (.var 0)) (.one .ne (.int 2)))) (.cons (.ret (.bool false))
    .nil) .nil)
  (.cons (.ret (.and (.call "is_symbol" (.cons (.sub (.var 0) (.int 0)) (.cons (.var 1) .nil))) (.call "is_symbol" (.cons (.sub (.var 0) (.int 1)) (.cons (.var 1) .nil)))))
  .nil))⟩
noncomputable def F_need_book : Fn := ⟨1, ["book", "rules", "row", "number", "symbol"], 5,
  (.cons (.ite (.or (.not (.isinst (.var 0) .tuple)) (.cmp (.len (.var 0)) (.one .ne (.int 2)))) (.cons (.rz "NoBook" (.str (Str.ofString "no pair")))
    .nil) .nil)
  (.cons (.assign (.var 1) (.sub (.var 0) (.int 0)))
  (.cons (.assign (.var 2) (.sub (.var 0) (.int 1)))
  (.cons (.ite (.or (.not (.isinst (.var 1) .list)) (.not (.isinst (.var 2) .list))) (.cons (.rz "NoBook" (.str (Str.ofString "no two lists")))
    .nil) .nil)
  (.cons (.ite (.or (.cmp (.len (.var 1)) (.one .gt (.glob "MOST_RULES"))) (.cmp (.len (.var 2)) (.one .gt (.glob "MOST_ROW")))) (.cons (.rz "NoBook" (.str (Str.ofString "too long")))
    .nil) .nil)
  (.cons (.for (.var 3) (.range1 (.len (.var 1))) (.cons (.ite (.not (.call "is_rule" (.cons (.sub (.var 1) (.var 3)) (.cons (.var 3) .nil)))) (.cons (.rz "NoBook" (.str (Str.ofString "no rule")))
      .nil) .nil)
    .nil))
  (.cons (.for (.var 4) (.seq (.var 2)) (.cons (.ite (.not (.call "is_symbol" (.cons (.var 4) (.cons (.len (.var 1)) .nil)))) (.cons (.rz "NoBook" (.str (Str.ofString "no symbol")))
      .nil) .nil)
    .nil))
  (.cons (.ret (.var 0))
  .nil))))))))⟩
noncomputable def F_lengths : Fn := ⟨1, ["book", "sizes", "rule"], 3,
  (.cons (.expr (.call "need_book" (.cons (.var 0) .nil)))
  (.cons (.raise "" .none)
  (.cons (.raise "" .none)
  (.cons (.raise "" .none)
  .nil))))⟩
noncomputable def F_length : Fn := ⟨1, ["book", "sizes"], 2,
  (.cons (.assign (.var 1) (.call "lengths" (.cons (.var 0) .nil)))
  (.cons (.raise "" .none)
  .nil))⟩
noncomputable def F_depth : Fn := ⟨1, ["book", "heights", "rule"], 3,
  (.cons (.expr (.call "need_book" (.cons (.var 0) .nil)))
  (.cons (.raise "" .none)
  (.cons (.raise "" .none)
  (.cons (.raise "" .none)
  .nil))))⟩
noncomputable def F_uses : Fn := ⟨1, ["book", "rules", "found", "symbol", "number"], 5,
  (.cons (.expr (.call "need_book" (.cons (.var 0) .nil)))
  (.cons (.raise "" .none)
  (.cons (.raise "" .none)
  (.cons (.raise "" .none)
  (.cons (.raise "" .none)
  (.cons (.raise "" .none)
  .nil))))))⟩
noncomputable def F_written_out : Fn := ⟨1, ["book", "waiting", "signs", "symbol"], 4,
  (.cons (.expr (.call "need_book" (.cons (.var 0) .nil)))
  (.cons (.raise "" .none)
  (.cons (.raise "" .none)
  (.cons (.raise "" .none)
  (.cons (.raise "" .none)
  .nil)))))⟩
noncomputable def F_sign_at : Fn := ⟨2, ["book", "place", "sizes", "at", "symbol", "opened", "rule", "size"], 8,
  (.cons (.assign (.var 2) (.call "lengths" (.cons (.var 0) .nil)))
  (.cons (.raise "" .none)
  (.cons (.raise "" .none)
  (.cons (.raise "" .none)
  (.cons (.raise "" .none)
  (.cons (.raise "" .none)
  (.cons (.raise "" .none)
  (.cons (.raise "" .none)
  .nil))))))))⟩
noncomputable def F_cut : Fn := ⟨3, ["book", "start", "end", "sizes", "total", "waiting", "behind", "symbol", "signs", "opened", "one", "stop", "rule"], 13,
  (.cons (.assign (.var 3) (.call "lengths" (.cons (.var 0) .nil)))
  (.cons (.raise "" .none)
  (.cons (.raise "" .none)
  (.cons (.raise "" .none)
  (.cons (.raise "" .none)
  (.cons (.raise "" .none)
  (.cons (.raise "" .none)
  (.cons (.raise "" .none)
  (.cons (.raise "" .none)
  (.cons (.raise "" .none)
  .nil))))))))))⟩
noncomputable def F_shown : Fn := ⟨1, ["book", "rows"], 2,
  (.cons (.expr (.call "need_book" (.cons (.var 0) .nil)))
  (.cons (.raise "" .none)
  (.cons (.raise "" .none)
  .nil)))⟩
noncomputable def F_whole : Fn := ⟨2, ["book", "word", "pieces", "rule", "found", "symbol"], 6,
  (.cons (.expr (.call "need_book" (.cons (.var 0) .nil)))
  (.cons (.raise "" .none)
  (.cons (.raise "" .none)
  (.cons (.raise "" .none)
  (.cons (.raise "" .none)
  (.cons (.raise "" .none)
  (.cons (.raise "" .none)
  .nil)))))))⟩
noncomputable def F_how_often : Fn := ⟨2, ["book", "word"], 2,
  (.cons (.ret (.only (.call "whole" (.cons (.var 0) (.cons (.var 1) .nil)))))
  .nil)⟩
noncomputable def F_first_place : Fn := ⟨2, ["book", "word"], 2,
  (.cons (.ret (.only (.call "whole" (.cons (.var 0) (.cons (.var 1) .nil)))))
  .nil)⟩
noncomputable def F_law_cell_at : Fn := ⟨2, ["_law_script", "_law_k"], 2,
  (.cons (.ite (.cmp (.var 1) (.one .lt (.len (.var 0)))) (.cons (.ret (.sub (.var 0) (.var 1)))
    .nil) .nil)
  (.cons (.ret (.int 0))
  .nil))⟩
noncomputable def F_law_sign_by : Fn := ⟨1, ["_law_cell", "_law_some"], 2,
  (.cons (.assign (.var 1) (.str (Str.ofString " !\"#$&'()*+,-./0123456789:;<=>?@ABCDEFGHIJKLMNOPQRSTUVWXYZ[\\]^_`")))
  (.cons (.assign (.var 1) (.bin .add (.var 1) (.str (Str.ofString "abcdefghijklmnopqrstuvwxyz{|}~\n"))))
  (.cons (.ret (.sub (.var 1) (.bin .mod (.var 0) (.int 95))))
  .nil)))⟩
noncomputable def F_law_symbol_by : Fn := ⟨3, ["_law_cell", "_law_many", "_law_first"], 3,
  (.cons (.ite (.or (.cmp (.var 1) (.one .eq (.int 0))) (.cmp (.bin .mod (.var 0) (.int 3)) (.one .eq (.int 0)))) (.cons (.ret (.call "_law_sign_by" (.cons (.bin .add (.var 2) (.bin .mul (.bin .mod (.bin .fdiv (.var 0) (.int 3)) (.int 3)) (.bin .add (.int 1) (.bin .mod (.bin .fdiv (.var 2) (.int 95)) (.int 94))))) .nil)))
    .nil) .nil)
  (.cons (.ite (.cmp (.bin .mod (.var 0) (.int 3)) (.one .eq (.int 1))) (.cons (.ret (.bin .sub (.var 1) (.int 1)))
    .nil) .nil)
  (.cons (.ret (.bin .mod (.bin .fdiv (.var 0) (.int 3)) (.var 1)))
  .nil)))⟩
noncomputable def F_law_book_by : Fn := ⟨2, ["_law_cells", "_law_first", "_law_rules", "_law_row", "_law_cell", "_law_one"], 6,
  (.cons (.own 2 (.list .nil))
  (.cons (.own 3 (.list .nil))
  (.cons (.for (.var 4) (.seq (.var 0)) (.cons (.ite (.cmp (.bin .mod (.var 4) (.int 3)) (.one .lt (.int 2))) (.cons (.assign (.var 5) (.call "_law_symbol_by" (.cons (.bin .fdiv (.var 4) (.int 3)) (.cons (.len (.var 2)) (.cons (.var 1) .nil)))))
      (.cons (.append (.var 2) (.pure (.tup (.cons (.var 5) (.cons (.call "_law_symbol_by" (.cons (.bin .fdiv (.var 4) (.int 47)) (.cons (.len (.var 2)) (.cons (.var 1) .nil)))) .nil)))))
      .nil)) (.cons (.append (.var 3) (.pure (.call "_law_symbol_by" (.cons (.bin .fdiv (.var 4) (.int 3)) (.cons (.len (.var 2)) (.cons (.var 1) .nil))))))
      .nil))
    .nil))
  (.cons (.ret (.tup (.cons (.var 2) (.cons (.var 3) .nil))))
  .nil))))⟩
noncomputable def F_law_odd : Fn := ⟨2, ["_law_cell", "_law_many", "_law_some"], 3,
  (.cons (.assign (.var 2) (.list (.cons (.str (Str.ofString "")) (.cons (.str (Str.ofString "ab")) (.cons (.neg (.int 1)) (.cons (.var 1) (.cons (.bin .add (.var 1) (.int 1)) (.cons (.bin .pow (.int 10) (.int 30)) (.cons (.bool true) (.cons (.bool false) (.cons .none (.cons (.tup (.cons (.int 0) .nil)) (.cons (.list (.cons (.int 0) .nil)) (.cons (.tup (.cons (.str (Str.ofString "a")) .nil)) .nil))))))))))))))
  (.cons (.ret (.sub (.var 2) (.bin .mod (.var 0) (.int 12))))
  .nil))⟩
noncomputable def F_law_asked : Fn := ⟨2, ["_law_way", "_law_book"], 2,
  (.cons (.ite (.cmp (.var 0) (.one .eq (.int 0))) (.cons (.ret (.call "need_book" (.cons (.var 1) .nil)))
    .nil) .nil)
  (.cons (.ite (.cmp (.var 0) (.one .eq (.int 1))) (.cons (.ret (.call "lengths" (.cons (.var 1) .nil)))
    .nil) .nil)
  (.cons (.ite (.cmp (.var 0) (.one .eq (.int 2))) (.cons (.ret (.call "uses" (.cons (.var 1) .nil)))
    .nil) .nil)
  (.cons (.ite (.cmp (.var 0) (.one .eq (.int 3))) (.cons (.ret (.call "written_out" (.cons (.var 1) .nil)))
    .nil) .nil)
  (.cons (.ite (.cmp (.var 0) (.one .eq (.int 4))) (.cons (.ret (.call "sign_at" (.cons (.var 1) (.cons (.neg (.int 1)) .nil))))
    .nil) .nil)
  (.cons (.ite (.cmp (.var 0) (.one .eq (.int 5))) (.cons (.ret (.call "cut" (.cons (.var 1) (.cons (.int 5) (.cons (.int 3) .nil)))))
    .nil) .nil)
  (.cons (.ite (.cmp (.var 0) (.one .eq (.int 6))) (.cons (.ret (.call "how_often" (.cons (.var 1) (.cons (.str (Str.ofString "")) .nil))))
    .nil) .nil)
  (.cons (.ite (.cmp (.var 0) (.one .eq (.int 7))) (.cons (.ret (.call "first_place" (.cons (.var 1) (.cons (.str (Str.ofString "")) .nil))))
    .nil) .nil)
  (.cons (.ite (.cmp (.var 0) (.one .eq (.int 8))) (.cons (.ret (.call "length" (.cons (.var 1) .nil)))
    .nil) .nil)
  (.cons (.ite (.cmp (.var 0) (.one .eq (.int 9))) (.cons (.ret (.call "depth" (.cons (.var 1) .nil)))
    .nil) .nil)
  (.cons (.ret (.call "shown" (.cons (.var 1) .nil)))
  .nil)))))))))))⟩
noncomputable def F_law_refused : Fn := ⟨2, ["_law_way", "_law_book", "e", "_law_other"], 4,
  (.cons (.tryEx (.call "_law_asked" (.cons (.var 0) (.cons (.var 1) .nil))) "NoBook" none (.cons (.tryEx (.call "need_book" (.cons (.var 1) .nil)) "BookError" (some 2) (.cons (.assign (.var 3) (.or (.isexc (.var 2) "NoPlace") (.or (.isexc (.var 2) "NoText") (.isexc (.var 2) "NoWord"))))
      (.cons (.ret (.and (.isexc (.var 2) "ValueError") (.not (.var 3))))
      .nil)))
    .nil))
  (.cons (.ret (.bool false))
  .nil))⟩
noncomputable def F_law_spoilt : Fn := ⟨2, ["_law_book", "_law_cell", "_law_rules", "_law_row", "_law_where", "_law_spot", "_law_pair", "_law_odd_here"], 8,
  (.cons (.assign (.var 2) (.listOf (.seq (.sub (.var 0) (.int 0)))))
  (.cons (.assign (.var 3) (.listOf (.seq (.sub (.var 0) (.int 1)))))
  (.cons (.assign (.var 4) (.bin .mod (.bin .fdiv (.var 1) (.int 12)) (.int 5)))
  (.cons (.ite (.or (.cmp (.var 4) (.one .eq (.int 0))) (.and (.cmp (.var 4) (.one .eq (.int 1))) (.cmp (.var 2) (.one .eq (.list .nil))))) (.cons (.assign (.var 5) (.bin .mod (.bin .fdiv (.var 1) (.int 60)) (.bin .add (.len (.var 3)) (.int 1))))
    (.cons (.ret (.tup (.cons (.var 2) (.cons (.bin .add (.bin .add (.slice (.var 3) .none (.var 5)) (.list (.cons (.call "_law_odd" (.cons (.var 1) (.cons (.len (.var 2)) .nil))) .nil))) (.slice (.var 3) (.var 5) .none)) .nil))))
    .nil)) .nil)
  (.cons (.ite (.cmp (.var 4) (.one .eq (.int 1))) (.cons (.assign (.var 5) (.bin .mod (.bin .fdiv (.var 1) (.int 60)) (.len (.var 2))))
    (.cons (.own 6 (.list (.cons (.pure (.sub (.sub (.var 2) (.var 5)) (.int 0))) (.cons (.pure (.sub (.sub (.var 2) (.var 5)) (.int 1))) .nil))))
    (.cons (.setitem (.var 6) (.bin .mod (.bin .fdiv (.var 1) (.int 7)) (.int 2)) (.call "_law_odd" (.cons (.var 1) (.cons (.var 5) .nil))))
    (.cons (.ret (.tup (.cons (.bin .add (.bin .add (.slice (.var 2) .none (.var 5)) (.list (.cons (.tupOf (.var 6)) .nil))) (.slice (.var 2) (.bin .add (.var 5) (.int 1)) .none)) (.cons (.var 3) .nil))))
    .nil)))) .nil)
  (.cons (.ite (.cmp (.var 4) (.one .eq (.int 2))) (.cons (.assign (.var 5) (.bin .mod (.bin .fdiv (.var 1) (.int 60)) (.bin .add (.len (.var 2)) (.int 1))))
    (.cons (.assign (.var 7) (.sub (.list (.cons (.tup (.cons (.str (Str.ofString "a")) .nil)) (.cons (.tup (.cons (.str (Str.ofString "a")) (.cons (.str (Str.ofString "b")) (.cons (.str (Str.ofString "c")) .nil)))) (.cons (.list (.cons (.str (Str.ofString "a")) (.cons (.str (Str.ofString "b")) .nil))) (.cons (.str (Str.ofString "ab")) (.cons .none (.cons (.tup .nil) .nil))))))) (.bin .mod (.var 1) (.int 6))))
    (.cons (.ret (.tup (.cons (.bin .add (.bin .add (.slice (.var 2) .none (.var 5)) (.list (.cons (.var 7) .nil))) (.slice (.var 2) (.var 5) .none)) (.cons (.var 3) .nil))))
    .nil))) .nil)
  (.cons (.ite (.cmp (.var 4) (.one .eq (.int 3))) (.cons (.ret (.sub (.list (.cons (.tup (.cons (.var 2) .nil)) (.cons (.tup (.cons (.var 2) (.cons (.var 3) (.cons (.list .nil) .nil)))) (.cons (.list (.cons (.var 2) (.cons (.var 3) .nil))) (.cons (.tup (.cons (.tupOf (.var 2)) (.cons (.var 3) .nil))) .nil))))) (.bin .mod (.var 1) (.int 4))))
    .nil) .nil)
  (.cons (.ret (.sub (.list (.cons .none (.cons (.str (Str.ofString "")) (.cons (.int 7) (.cons (.tup (.cons (.var 2) (.cons (.str (Str.ofString "ab")) .nil))) (.cons (.tup (.cons (.var 2) (.cons (.tupOf (.var 3)) .nil))) (.cons (.tup (.cons .dict0 (.cons (.var 3) .nil))) .nil))))))) (.bin .mod (.var 1) (.int 6))))
  .nil))))))))⟩
noncomputable def F_law : Fn := ⟨1, ["_law_script", "_law_book", "_law_way", "_law_cell", "_law_handed", "_law_found", "_law_many"], 7,
  (.cons (.assign (.var 1) (.call "_law_book_by" (.cons (.slice (.var 0) (.int 3) (.int 33)) (.cons (.call "_law_cell_at" (.cons (.var 0) (.cons (.int 0) .nil))) .nil))))
  (.cons (.assign (.var 2) (.call "_law_cell_at" (.cons (.var 0) (.cons (.int 1) .nil))))
  (.cons (.assign (.var 3) (.call "_law_cell_at" (.cons (.var 0) (.cons (.int 2) .nil))))
  (.cons (.ite (.cmp (.bin .mod (.var 2) (.int 6)) (.one .eq (.int 5))) (.cons (.assign (.var 6) (.bin .add (.int 600) (.bin .mod (.var 3) (.int 2))))
    (.cons (.assign (.var 1) (.tup (.cons (.bin .mul (.list (.cons (.tup (.cons (.str (Str.ofString "a")) (.cons (.str (Str.ofString "b")) .nil))) .nil)) (.var 6)) (.cons (.list (.cons (.bin .sub (.var 6) (.int 1)) .nil)) .nil))))
    (.cons (.ite (.cmp (.bin .mod (.bin .fdiv (.var 3) (.int 2)) (.int 2)) (.one .eq (.int 1))) (.cons (.assign (.var 1) (.tup (.cons (.list (.cons (.tup (.cons (.str (Str.ofString "a")) (.cons (.str (Str.ofString "b")) .nil))) .nil)) (.cons (.bin .mul (.list (.cons (.int 0) .nil)) (.bin .add (.int 2000) (.bin .mod (.var 3) (.int 2)))) .nil))))
      .nil) .nil)
    (.cons (.ite (.cmp (.bin .mod (.var 3) (.int 2)) (.one .eq (.int 1))) (.cons (.ret (.call "_law_refused" (.cons (.bin .mod (.bin .fdiv (.var 3) (.int 4)) (.int 11)) (.cons (.var 1) .nil))))
      .nil) .nil)
    .nil)))) (.cons (.ite (.cmp (.bin .mod (.var 2) (.int 6)) (.one .gt (.int 1))) (.cons (.ret (.call "_law_refused" (.cons (.bin .mod (.bin .fdiv (.var 2) (.int 6)) (.int 11)) (.cons (.call "_law_spoilt" (.cons (.var 1) (.cons (.var 3) .nil))) .nil))))
      .nil) .nil)
    .nil))
  (.cons (.assign (.var 4) (.tup (.cons (.listOf (.seq (.sub (.var 1) (.int 0)))) (.cons (.listOf (.seq (.sub (.var 1) (.int 1)))) .nil))))
  (.cons (.assign (.var 5) (.call "need_book" (.cons (.var 4) .nil)))
  (.cons (.ret (.and (.isinst (.var 5) .tuple) (.and (.cmp (.len (.var 5)) (.one .eq (.int 2))) (.and (.cmp (.var 5) (.one .eq (.var 1))) (.cmp (.var 4) (.one .eq (.var 1)))))))
  .nil)))))))⟩
noncomputable def tbl : Tbl := [("is_whole", F_is_whole), ("is_text", F_is_text), ("is_symbol", F_is_symbol), ("is_rule", F_is_rule), ("need_book", F_need_book), ("lengths", F_lengths), ("length", F_length), ("depth", F_depth), ("uses", F_uses), ("written_out", F_written_out), ("sign_at", F_sign_at), ("cut", F_cut), ("shown", F_shown), ("whole", F_whole), ("how_often", F_how_often), ("first_place", F_first_place), ("_law_cell_at", F_law_cell_at), ("_law_sign_by", F_law_sign_by), ("_law_symbol_by", F_law_symbol_by), ("_law_book_by", F_law_book_by), ("_law_odd", F_law_odd), ("_law_asked", F_law_asked), ("_law_refused", F_law_refused), ("_law_spoilt", F_law_spoilt), ("law", F_law)]
noncomputable def gtab : List (String × V) := [("SIGNS", .str (Str.ofString " !\"#$&'()*+,-./0123456789:;<=>?@ABCDEFGHIJKLMNOPQRSTUVWXYZ[\\]^_`abcdefghijklmnopqrstuvwxyz{|}~\n")), ("MOST_RULES", .int 600), ("MOST_ROW", .int 2000), ("MOST_WORD", .int 200)]
end L03
end

section
set_option autoImplicit false
set_option linter.unusedSimpArgs false
set_option linter.unusedVariables false
namespace Lib
open PySem Mine
/-! need_book on any plain thing -/
noncomputable def pl : V → Bool
  | .ref _ => false
  | .iref _ _ _ => false
  | .inst _ _ _ => false
  | .exc _ => false
  | _ => true
noncomputable def isWh : V → Bool
  | .int _ => true
  | _ => false
noncomputable def txtOk (s : Str) : Bool := s.cps.toList.all fun c => hasSub SIGNS ⟨#[c]⟩
noncomputable def isTx : V → Bool
  | .str s => txtOk s
  | _ => false
structure Has3 (tbl : Tbl) (gl : List (String × V)) : Prop where
  whole : tbl.lookup "is_whole" = some L03.F_is_whole
  text : tbl.lookup "is_text" = some L03.F_is_text
  symbol : tbl.lookup "is_symbol" = some L03.F_is_symbol
  rule : tbl.lookup "is_rule" = some L03.F_is_rule
  book : tbl.lookup "need_book" = some L03.F_need_book
  signs : gl.lookup "SIGNS" = some (.str SIGNS)
  mr : gl.lookup "MOST_RULES" = some (.int 600)
  mw : gl.lookup "MOST_ROW" = some (.int 2000)
/-- a call that raises -/
noncomputable def Cr (C : Cx) (f : String) (vs : List V) (H : AH) (c : String) : Prop := ∀ (Q : V → Prop) (X : String → Prop), X c → C.call f vs H Q X
section
variable {C : Cx} {st : St} {ρ : List (Option V)} {H B : AH} {Q : Fl → St → Prop} {X : String → St → Prop} {b r : Bl} {c : String}
theorem x_rz {k : String} {e : E} {w : V} (he : Ev C st e w) (h : X k st) : WB C (.cons (.rz k e) b) st Q X := he _ _ h
theorem cr_of {tbl : Tbl} {gl : List (String × V)} {cls : Clss} {d : Nat} {f : String} {fn : Fn} {args : List V} (h : tbl.lookup f = some fn) (h1 : args.length = fn.np) (h2 : fn.np ≤ fn.nv)
    (h3 : ∀ (Q : V → Prop) (X : String → Prop), X c → WB (cxN tbl gl cls d) fn.body ⟨args.map some ++ List.replicate (fn.nv - fn.np) none, H, H⟩ (PK H Q) (fun x _ => X x)) : Cr (cxN tbl gl cls (d + 1)) f args H c := fun Q X q => call_of h h1 h2 (h3 Q X q)
end
section
variable {C : Cx} {ρ : List (Option V)} {H H' B : AH} {Q : V → Prop} {X X' X'' : String → St → Prop} {b b' r r' : Bl} {t : Tg} {xs : List V} {e : E} {w w' : V}
/-! returns: at once, out of an if, out of an if in a for -/
theorem r1 (he : Ev C ⟨ρ, H', B⟩ e w) (hf : frz H' H 8 w = some w') (q : Q w') : WB C (.cons (.ret e) b) ⟨ρ, H', B⟩ (PK H Q) X := w_ret he (pk_of hf q)
theorem r2 (he : Ev C ⟨ρ, H', B⟩ e w) (hf : frz H' H 8 w = some w') (q : Q w') : WB C (.cons (.ret e) b) ⟨ρ, H', B⟩ (Kn C r (PK H Q) X') X := w_ret he (show PK H Q (.ret w) ⟨ρ, H', B⟩ from pk_of hf q)
theorem r3 (he : Ev C ⟨ρ, H', B⟩ e w) (hf : frz H' H 8 w = some w') (q : Q w') : WB C (.cons (.ret e) b) ⟨ρ, H', B⟩ (Kn C r (Kf C t b' r' (PK H Q) X' xs) X'') X := w_ret he (show PK H Q (.ret w) ⟨ρ, H', B⟩ from pk_of hf q)
end
section
variable {tbl : Tbl} {gl : List (String × V)} {cls : Clss} {d : Nat} {H : AH}
theorem ist {t : Ty} {v : V} (hp : pl v = true) : isT H t v = isV t v := by
  cases v <;> first | rfl | cases hp
theorem ca_whole3 {v : V} (h : Has3 tbl gl) (hp : pl v = true) : Ca (cxN tbl gl cls (d + 1)) "is_whole" [v] H (.bool (isWh v)) := ca_of h.whole rfl (by decide) fun Q X q => by
  have h1 : ∃ p q, isT H .int v = some p ∧ isT H .bool v = some q ∧ (p && !q) = isWh v := by
    rw [ist hp, ist hp]
    cases v <;> first | exact ⟨_, _, rfl, rfl, rfl⟩ | cases hp
  obtain ⟨p, q', e1, e2, e3⟩ := h1
  refine r1 (ev_and (ev_isi (ev_var rfl) e1) fun _ => ev_not (ev_isi (ev_var rfl) e2)) rfl ?_
  rw [e3]; exact q
theorem ca_text3 {v : V} (h : Has3 tbl gl) (hp : pl v = true) : Ca (cxN tbl gl cls (d + 1)) "is_text" [v] H (.bool (isTx v)) := ca_of h.text rfl (by decide) fun Q X q => by
  by_cases hs : ∃ s, v = .str s
  · obtain ⟨s, rfl⟩ := hs
    refine w_iff (ev_not (ev_isi (ev_var rfl) (show isT H .str (.str s) = some true from rfl))) (kn_nil ?_)
    refine w_for (ei_seq (vs := s.cps.toList.map fun c => .str ⟨#[c]⟩) (ev_var rfl) (by show some (signsOf s) = _; rfl)) (.inl rfl) ?_
    have key : ∀ (l : List Nat) (st : St), st.ρ.length = 2 → st.H = H → Q (.bool (l.all fun c => hasSub SIGNS ⟨#[c]⟩)) → Fo (cxN tbl gl cls d) (.var 1) (.cons (.ite (.cmp (.var 1) (.one .notin (.glob "SIGNS"))) (.cons (.ret (.bool false)) .nil) .nil) .nil) (.cons (.ret (.bool true)) .nil) (PK H Q) (fun x _ => X x) (l.map fun c => .str ⟨#[c]⟩) st := by
      intro l
      induction l with
      | nil => intro st h1 h2 q; obtain ⟨ρ, H', B⟩ := st; have h2 : H' = H := h2; subst h2; exact fo_nil (r1 ev_bool rfl q)
      | cons c l ih =>
        intro st h1 h2 q
        obtain ⟨ρ, H', B⟩ := st
        have h2 : H' = H := h2
        subst h2
        have hl : ρ.length = 2 := h1
        refine fo_cons (ρ' := ρ.set 1 (some (.str ⟨#[c]⟩))) (by show putV _ _ _ = _; unfold putV; rw [if_pos (by omega)]) ?_
        have hv : (ρ.set 1 (some (V.str ⟨#[c]⟩)))[1]? = some (some (.str ⟨#[c]⟩)) := List.getElem?_set_self (by omega)
        refine w_if (!hasSub SIGNS ⟨#[c]⟩) (ev_cmp (ev_var hv) (ec_one (ev_glob h.signs) fun _ q => q)) (fun e => ?_) fun e => ?_
        · rw [List.all_cons, show hasSub SIGNS ⟨#[c]⟩ = false from by simpa using e] at q
          exact r3 ev_bool rfl q
        · rw [List.all_cons, show hasSub SIGNS ⟨#[c]⟩ = true from by simpa using e] at q
          exact kn_nil (kf_nil (ih _ (by simp [hl]) rfl q))
    exact key s.cps.toList _ rfl rfl q
  · have e1 : isT H .str v = some false := by rw [ist hp]; cases v <;> first | exact absurd ⟨_, rfl⟩ hs | rfl | cases hp
    have e2 : isTx v = false := by cases v <;> first | exact absurd ⟨_, rfl⟩ hs | rfl
    rw [e2] at q
    exact w_ift (ev_not (ev_isi (ev_var rfl) e1)) (r2 ev_bool rfl q)
noncomputable def bodyR : Bl := .cons (.ite (.not (.call "is_rule" (.cons (.sub (.var 1) (.var 3)) (.cons (.var 3) .nil)))) (.cons (.rz "NoBook" (.str (Str.ofString "no rule"))) .nil) .nil) .nil
noncomputable def bodyS : Bl := .cons (.ite (.not (.call "is_symbol" (.cons (.var 4) (.cons (.len (.var 1)) .nil)))) (.cons (.rz "NoBook" (.str (Str.ofString "no symbol"))) .nil) .nil) .nil
end
end Lib
end

section
set_option autoImplicit false
namespace L09
open PySem Mine

noncomputable def F_is_whole : Fn := ⟨1, ["thing"], 1,
  (.cons (.ret (.and (.isinst (.var 0) .int) (.not (.isinst (.var 0) .bool))))
  .nil)⟩
noncomputable def F_is_text : Fn := ⟨1, ["thing", "sign"], 2,
  (.cons (.ite (.not (.isinst (.var 0) .str)) (.cons (.ret (.bool false))
    .nil) .nil)
  (.cons (.for (.var 1) (.seq (.var 0)) (.cons (.ite (.cmp (.var 1) (.one .notin (.glob "SIGNS"))) (.cons (.ret (.bool false))
      .nil) .nil)
    .nil))
  (.cons (.ret (.bool true))
  .nil)))⟩
noncomputable def F_is_symbol : Fn := ⟨2, ["thing", "below"], 2,
  (.cons (.ite (.call "is_whole" (.cons (.var 0) .nil)) (.cons (.ret (.cmp (.int 0) (.more .le (.var 0) (.one .lt (.var 1)))))
    .nil) .nil)
  (.cons (.ret (.and (.call "is_text" (.cons (.var 0) .nil)) (.cmp (.len (.var 0)) (.one .eq (.int 1)))))
  .nil))⟩
noncomputable def F_is_rule : Fn := ⟨2, ["rule", "number"], 2,
  (.cons (.ite (.or (.not (.isinst (.var 0) .tuple)) (.cmp (.len (.var 0)) (.one .ne (.int 2)))) (.cons (.ret (.bool false))
    .nil) .nil)
  (.cons (.ret (.and (.call "is_symbol" (.cons (.sub (.var 0) (.int 0)) (.cons (.var 1) .nil))) (.call "is_symbol" (.cons (.sub (.var 0) (.int 1)) (.cons (.var 1) .nil)))))
  .nil))⟩
noncomputable def F_need_book : Fn := ⟨1, ["book", "rules", "row", "number", "symbol"], 5,
  (.cons (.ite (.or (.not (.isinst (.var 0) .tuple)) (.cmp (.len (.var 0)) (.one .ne (.int 2)))) (.cons (.rz "NoBook" (.str (Str.ofString "no pair")))
    .nil) .nil)
  (.cons (.assign (.var 1) (.sub (.var 0) (.int 0)))
  (.cons (.assign (.var 2) (.sub (.var 0) (.int 1)))
  (.cons (.ite (.or (.not (.isinst (.var 1) .list)) (.not (.isinst (.var 2) .list))) (.cons (.rz "NoBook" (.str (Str.ofString "no two lists")))
    .nil) .nil)
  (.cons (.ite (.or (.cmp (.len (.var 1)) (.one .gt (.glob "MOST_RULES"))) (.cmp (.len (.var 2)) (.one .gt (.glob "MOST_ROW")))) (.cons (.rz "NoBook" (.str (Str.ofString "too long")))
    .nil) .nil)
  (.cons (.for (.var 3) (.range1 (.len (.var 1))) (.cons (.ite (.not (.call "is_rule" (.cons (.sub (.var 1) (.var 3)) (.cons (.var 3) .nil)))) (.cons (.rz "NoBook" (.str (Str.ofString "no rule")))
      .nil) .nil)
    .nil))
  (.cons (.for (.var 4) (.seq (.var 2)) (.cons (.ite (.not (.call "is_symbol" (.cons (.var 4) (.cons (.len (.var 1)) .nil)))) (.cons (.rz "NoBook" (.str (Str.ofString "no symbol")))
      .nil) .nil)
    .nil))
  (.cons (.ret (.var 0))
  .nil))))))))⟩
noncomputable def F_length_of : Fn := ⟨2, ["symbol", "sizes"], 2,
  (.cons (.ite (.isinst (.var 0) .str) (.cons (.ret (.int 1))
    .nil) .nil)
  (.cons (.ret (.sub (.var 1) (.var 0)))
  .nil))⟩
noncomputable def F_lengths : Fn := ⟨1, ["book", "sizes", "rule"], 3,
  (.cons (.expr (.call "need_book" (.cons (.var 0) .nil)))
  (.cons (.own 1 (.list .nil))
  (.cons (.for (.var 2) (.seq (.sub (.var 0) (.int 0))) (.cons (.append (.var 1) (.pure (.bin .add (.call "length_of" (.cons (.sub (.var 2) (.int 0)) (.cons (.var 1) .nil))) (.call "length_of" (.cons (.sub (.var 2) (.int 1)) (.cons (.var 1) .nil))))))
    .nil))
  (.cons (.ret (.var 1))
  .nil))))⟩
noncomputable def F_total_of : Fn := ⟨2, ["book", "sizes"], 3,
  (.cons (.ret (.sum (.comp (.call "length_of" (.cons (.var 2) (.cons (.var 1) .nil))) (.var 2) (.seq (.sub (.var 0) (.int 1))))))
  .nil)⟩
noncomputable def F_sign_at : Fn := ⟨2, ["book", "place", "sizes", "at", "symbol", "opened", "rule", "size"], 8,
  (.cons (.assign (.var 2) (.call "lengths" (.cons (.var 0) .nil)))
  (.cons (.ite (.or (.not (.call "is_whole" (.cons (.var 1) .nil))) (.not (.cmp (.int 0) (.more .le (.var 1) (.one .lt (.call "total_of" (.cons (.var 0) (.cons (.var 2) .nil)))))))) (.cons (.rz "NoPlace" (.str (Str.ofString "no such place")))
    .nil) .nil)
  (.cons (.assign (.var 3) (.int 0))
  (.cons (.while (.cmp (.var 1) (.one .ge (.call "length_of" (.cons (.sub (.sub (.var 0) (.int 1)) (.var 3)) (.cons (.var 2) .nil))))) (.cons (.assign (.var 1) (.bin .sub (.var 1) (.call "length_of" (.cons (.sub (.sub (.var 0) (.int 1)) (.var 3)) (.cons (.var 2) .nil)))))
    (.cons (.assign (.var 3) (.bin .add (.var 3) (.int 1)))
    .nil)))
  (.cons (.assign (.var 4) (.sub (.sub (.var 0) (.int 1)) (.var 3)))
  (.cons (.own 5 (.list .nil))
  (.cons (.while (.not (.isinst (.var 4) .str)) (.cons (.append (.var 5) (.pure (.var 4)))
    (.cons (.assign (.var 6) (.sub (.sub (.var 0) (.int 0)) (.var 4)))
    (.cons (.assign (.var 7) (.call "length_of" (.cons (.sub (.var 6) (.int 0)) (.cons (.var 2) .nil))))
    (.cons (.assign (.var 4) (.sub (.var 6) (.int 0)))
    (.cons (.ite (.cmp (.var 1) (.one .ge (.var 7))) (.cons (.assign (.var 1) (.bin .sub (.var 1) (.var 7)))
      (.cons (.assign (.var 4) (.sub (.var 6) (.int 1)))
      .nil)) .nil)
    .nil))))))
  (.cons (.ret (.tup (.cons (.var 4) (.cons (.var 5) .nil))))
  .nil))))))))⟩
noncomputable def F_cut : Fn := ⟨3, ["book", "start", "end", "sizes", "total", "waiting", "behind", "symbol", "signs", "opened", "one", "stop", "rule"], 13,
  (.cons (.assign (.var 3) (.call "lengths" (.cons (.var 0) .nil)))
  (.cons (.assign (.var 4) (.call "total_of" (.cons (.var 0) (.cons (.var 3) .nil))))
  (.cons (.ite (.or (.not (.call "is_whole" (.cons (.var 1) .nil))) (.or (.not (.call "is_whole" (.cons (.var 2) .nil))) (.not (.cmp (.int 0) (.more .le (.var 1) (.more .le (.var 2) (.one .le (.var 4)))))))) (.cons (.rz "NoPlace" (.str (Str.ofString "no such stretch")))
    .nil) .nil)
  (.cons (.own 5 (.list .nil))
  (.cons (.assign (.var 6) (.var 4))
  (.cons (.for (.var 7) (.rev (.sub (.var 0) (.int 1))) (.cons (.assign (.var 6) (.bin .sub (.var 6) (.call "length_of" (.cons (.var 7) (.cons (.var 3) .nil)))))
    (.cons (.append (.var 5) (.pure (.tup (.cons (.var 7) (.cons (.var 6) .nil)))))
    .nil)))
  (.cons (.own 8 (.list .nil))
  (.cons (.assign (.var 9) (.int 0))
  (.cons (.while (.cmp (.len (.var 5)) (.one .gt (.int 0))) (.cons (.pop (.var 10) (.var 5))
    (.cons (.assign (.var 11) (.bin .add (.sub (.var 10) (.int 1)) (.call "length_of" (.cons (.sub (.var 10) (.int 0)) (.cons (.var 3) .nil)))))
    (.cons (.ite (.cmp (.max2 (.sub (.var 10) (.int 1)) (.var 1)) (.one .lt (.min2 (.var 11) (.var 2)))) (.cons (.ite (.isinst (.sub (.var 10) (.int 0)) .str) (.cons (.append (.var 8) (.pure (.sub (.var 10) (.int 0))))
        .nil) (.cons (.assign (.var 9) (.bin .add (.var 9) (.int 1)))
        (.cons (.assign (.var 12) (.sub (.sub (.var 0) (.int 0)) (.sub (.var 10) (.int 0))))
        (.cons (.append (.var 5) (.pure (.tup (.cons (.sub (.var 12) (.int 1)) (.cons (.bin .add (.sub (.var 10) (.int 1)) (.call "length_of" (.cons (.sub (.var 12) (.int 0)) (.cons (.var 3) .nil)))) .nil)))))
        (.cons (.append (.var 5) (.pure (.tup (.cons (.sub (.var 12) (.int 0)) (.cons (.sub (.var 10) (.int 1)) .nil)))))
        .nil)))))
      .nil) .nil)
    .nil))))
  (.cons (.ret (.tup (.cons (.join (.str (Str.ofString "")) (.var 8)) (.cons (.var 9) .nil))))
  .nil))))))))))⟩
noncomputable def F_best_pair : Fn := ⟨1, ["row", "counts", "last", "at", "best", "pair"], 6,
  (.cons (.own 1 .dict)
  (.cons (.own 2 .dict)
  (.cons (.for (.var 3) (.range1 (.bin .sub (.len (.var 0)) (.int 1))) (.cons (.assign (.var 5) (.tup (.cons (.sub (.var 0) (.var 3)) (.cons (.sub (.var 0) (.bin .add (.var 3) (.int 1))) .nil))))
    (.cons (.ite (.or (.cmp (.var 5) (.one .notin (.var 2))) (.cmp (.sub (.var 2) (.var 5)) (.one .ne (.bin .sub (.var 3) (.int 1))))) (.cons (.setkey (.var 1) (.var 5) (.bin .add (.get (.var 1) (.var 5) (.int 0)) (.int 1)))
      (.cons (.setkey (.var 2) (.var 5) (.var 3))
      .nil)) .nil)
    .nil)))
  (.cons (.assign (.var 4) .none)
  (.cons (.for (.var 5) (.keys (.var 1)) (.cons (.ite (.and (.cmp (.sub (.var 1) (.var 5)) (.one .gt (.int 1))) (.or (.cmp (.var 4) (.one .is .none)) (.cmp (.sub (.var 1) (.var 5)) (.one .gt (.sub (.var 1) (.var 4)))))) (.cons (.assign (.var 4) (.var 5))
      .nil) .nil)
    .nil))
  (.cons (.ret (.var 4))
  .nil))))))⟩
noncomputable def F_replaced : Fn := ⟨3, ["row", "pair", "number", "made_row", "at"], 5,
  (.cons (.own 3 (.list .nil))
  (.cons (.assign (.var 4) (.int 0))
  (.cons (.while (.cmp (.var 4) (.one .lt (.len (.var 0)))) (.cons (.ite (.and (.cmp (.bin .add (.var 4) (.int 1)) (.one .lt (.len (.var 0)))) (.and (.cmp (.sub (.var 0) (.var 4)) (.one .eq (.sub (.var 1) (.int 0)))) (.cmp (.sub (.var 0) (.bin .add (.var 4) (.int 1))) (.one .eq (.sub (.var 1) (.int 1)))))) (.cons (.append (.var 3) (.pure (.var 2)))
      (.cons (.assign (.var 4) (.bin .add (.var 4) (.int 2)))
      .nil)) (.cons (.append (.var 3) (.pure (.sub (.var 0) (.var 4))))
      (.cons (.assign (.var 4) (.bin .add (.var 4) (.int 1)))
      .nil)))
    .nil))
  (.cons (.ret (.var 3))
  .nil))))⟩
noncomputable def F_made : Fn := ⟨1, ["text", "rules", "row", "pair"], 5,
  (.cons (.ite (.or (.not (.call "is_text" (.cons (.var 0) .nil))) (.cmp (.len (.var 0)) (.one .gt (.glob "MOST_SIGNS")))) (.cons (.rz "NoText" (.str (Str.ofString "no text of at most 1000 signs")))
    .nil) .nil)
  (.cons (.own 1 (.list .nil))
  (.cons (.assign (.var 2) (.comp (.var 4) (.var 4) (.seq (.var 0))))
  (.cons (.assign (.var 3) (.call "best_pair" (.cons (.var 2) .nil)))
  (.cons (.while (.cmp (.var 3) (.one .isnot .none)) (.cons (.assign (.var 2) (.call "replaced" (.cons (.var 2) (.cons (.var 3) (.cons (.len (.var 1)) .nil)))))
    (.cons (.append (.var 1) (.pure (.var 3)))
    (.cons (.assign (.var 3) (.call "best_pair" (.cons (.var 2) .nil)))
    .nil))))
  (.cons (.ret (.tup (.cons (.var 1) (.cons (.var 2) .nil))))
  .nil))))))⟩
noncomputable def F_piece_of : Fn := ⟨2, ["sign", "word", "most", "piece"], 4,
  (.cons (.assign (.var 2) (.bin .sub (.len (.var 1)) (.int 1)))
  (.cons (.own 3 (.new "Piece" (.cons (.int 1) (.cons (.slice (.var 0) .none (.var 2)) (.cons (.slice (.var 0) .none (.var 2)) .nil)))))
  (.cons (.ite (.cmp (.var 0) (.one .eq (.var 1))) (.cons (.setattr (.var 3) "times" (.int 1))
    (.cons (.setattr (.var 3) "first" (.int 0))
    .nil)) .nil)
  (.cons (.ret (.var 3))
  .nil))))⟩
noncomputable def F_crossing : Fn := ⟨3, ["left", "right", "word", "near", "found", "at"], 6,
  (.cons (.assign (.var 3) (.bin .add (.attr (.var 0) "tail") (.attr (.var 1) "head")))
  (.cons (.own 4 (.list .nil))
  (.cons (.for (.var 5) (.range1 (.len (.attr (.var 0) "tail"))) (.cons (.ite (.cmp (.slice (.var 3) (.var 5) (.bin .add (.var 5) (.len (.var 2)))) (.one .eq (.var 2))) (.cons (.append (.var 4) (.pure (.bin .add (.bin .sub (.attr (.var 0) "size") (.len (.attr (.var 0) "tail"))) (.var 5))))
      .nil) .nil)
    .nil))
  (.cons (.ret (.var 4))
  .nil))))⟩
noncomputable def F_two : Fn := ⟨3, ["left", "right", "word", "most", "head", "tail", "piece", "places", "both"], 9,
  (.cons (.assign (.var 3) (.bin .sub (.len (.var 2)) (.int 1)))
  (.cons (.assign (.var 4) (.slice (.bin .add (.attr (.var 0) "head") (.attr (.var 1) "head")) .none (.var 3)))
  (.cons (.ite (.cmp (.attr (.var 0) "size") (.one .ge (.var 3))) (.cons (.assign (.var 4) (.attr (.var 0) "head"))
    .nil) .nil)
  (.cons (.assign (.var 5) (.attr (.var 1) "tail"))
  (.cons (.ite (.cmp (.attr (.var 1) "size") (.one .lt (.var 3))) (.cons (.assign (.var 8) (.bin .add (.attr (.var 0) "tail") (.attr (.var 1) "tail")))
    (.cons (.assign (.var 5) (.slice (.var 8) (.max2 (.int 0) (.bin .sub (.len (.var 8)) (.var 3))) .none))
    .nil)) .nil)
  (.cons (.own 6 (.new "Piece" (.cons (.bin .add (.attr (.var 0) "size") (.attr (.var 1) "size")) (.cons (.var 4) (.cons (.var 5) .nil)))))
  (.cons (.assign (.var 7) (.call "crossing" (.cons (.var 0) (.cons (.var 1) (.cons (.var 2) .nil)))))
  (.cons (.setattr (.var 6) "times" (.bin .add (.bin .add (.attr (.var 0) "times") (.len (.var 7))) (.attr (.var 1) "times")))
  (.cons (.setattr (.var 6) "first" (.attr (.var 0) "first"))
  (.cons (.ite (.and (.cmp (.attr (.var 6) "first") (.one .is .none)) (.cmp (.len (.var 7)) (.one .gt (.int 0)))) (.cons (.setattr (.var 6) "first" (.sub (.var 7) (.int 0)))
    .nil) .nil)
  (.cons (.ite (.and (.cmp (.attr (.var 6) "first") (.one .is .none)) (.cmp (.attr (.var 1) "first") (.one .isnot .none))) (.cons (.setattr (.var 6) "first" (.bin .add (.attr (.var 0) "size") (.attr (.var 1) "first")))
    .nil) .nil)
  (.cons (.ret (.var 6))
  .nil))))))))))))⟩
noncomputable def F_piece_by : Fn := ⟨3, ["symbol", "pieces", "word"], 3,
  (.cons (.ite (.isinst (.var 0) .str) (.cons (.ret (.call "piece_of" (.cons (.var 0) (.cons (.var 2) .nil))))
    .nil) .nil)
  (.cons (.ret (.sub (.var 1) (.var 0)))
  .nil))⟩
noncomputable def F_whole : Fn := ⟨2, ["book", "word", "pieces", "rule", "found", "symbol"], 6,
  (.cons (.expr (.call "need_book" (.cons (.var 0) .nil)))
  (.cons (.ite (.or (.not (.call "is_text" (.cons (.var 1) .nil))) (.not (.cmp (.int 1) (.more .le (.len (.var 1)) (.one .le (.glob "MOST_WORD")))))) (.cons (.rz "NoWord" (.str (Str.ofString "no word of 1 to 200 signs")))
    .nil) .nil)
  (.cons (.own 2 (.list .nil))
  (.cons (.for (.var 3) (.seq (.sub (.var 0) (.int 0))) (.cons (.append (.var 2) (.pure (.call "two" (.cons (.call "piece_by" (.cons (.sub (.var 3) (.int 0)) (.cons (.var 2) (.cons (.var 1) .nil)))) (.cons (.call "piece_by" (.cons (.sub (.var 3) (.int 1)) (.cons (.var 2) (.cons (.var 1) .nil)))) (.cons (.var 1) .nil))))))
    .nil))
  (.cons (.assign (.var 4) (.new "Piece" (.cons (.int 0) (.cons (.str (Str.ofString "")) (.cons (.str (Str.ofString "")) .nil)))))
  (.cons (.for (.var 5) (.seq (.sub (.var 0) (.int 1))) (.cons (.assign (.var 4) (.call "two" (.cons (.var 4) (.cons (.call "piece_by" (.cons (.var 5) (.cons (.var 2) (.cons (.var 1) .nil)))) (.cons (.var 1) .nil)))))
    .nil))
  (.cons (.ret (.var 4))
  .nil)))))))⟩
noncomputable def F_how_often : Fn := ⟨2, ["book", "word"], 2,
  (.cons (.ret (.attr (.call "whole" (.cons (.var 0) (.cons (.var 1) .nil))) "times"))
  .nil)⟩
noncomputable def F_first_place : Fn := ⟨2, ["book", "word"], 2,
  (.cons (.ret (.attr (.call "whole" (.cons (.var 0) (.cons (.var 1) .nil))) "first"))
  .nil)⟩
noncomputable def F_law_whole : Fn := ⟨1, ["_law_found"], 1,
  (.cons (.ret (.and (.isinst (.var 0) .int) (.not (.isinst (.var 0) .bool))))
  .nil)⟩
noncomputable def F_law_cell_at : Fn := ⟨2, ["_law_script", "_law_k"], 2,
  (.cons (.ite (.cmp (.var 1) (.one .lt (.len (.var 0)))) (.cons (.ret (.sub (.var 0) (.var 1)))
    .nil) .nil)
  (.cons (.ret (.int 0))
  .nil))⟩
noncomputable def F_law_sign_by : Fn := ⟨1, ["_law_cell", "_law_some"], 2,
  (.cons (.assign (.var 1) (.str (Str.ofString " !\"#$&'()*+,-./0123456789:;<=>?@ABCDEFGHIJKLMNOPQRSTUVWXYZ[\\]^_`")))
  (.cons (.assign (.var 1) (.bin .add (.var 1) (.str (Str.ofString "abcdefghijklmnopqrstuvwxyz{|}~\n"))))
  (.cons (.ret (.sub (.var 1) (.bin .mod (.var 0) (.int 95))))
  .nil)))⟩
noncomputable def F_law_asked : Fn := ⟨4, ["_law_way", "_law_book", "_law_thing", "_law_other"], 4,
  (.cons (.ite (.cmp (.var 0) (.one .eq (.int 0))) (.cons (.ret (.call "sign_at" (.cons (.var 1) (.cons (.var 2) .nil))))
    .nil) .nil)
  (.cons (.ite (.cmp (.var 0) (.one .eq (.int 1))) (.cons (.ret (.call "cut" (.cons (.var 1) (.cons (.var 2) (.cons (.var 3) .nil)))))
    .nil) .nil)
  (.cons (.ite (.cmp (.var 0) (.one .eq (.int 2))) (.cons (.ret (.call "cut" (.cons (.var 1) (.cons (.var 3) (.cons (.var 2) .nil)))))
    .nil) .nil)
  (.cons (.ite (.cmp (.var 0) (.one .eq (.int 3))) (.cons (.ret (.call "how_often" (.cons (.var 1) (.cons (.var 2) .nil))))
    .nil) .nil)
  (.cons (.ite (.cmp (.var 0) (.one .eq (.int 4))) (.cons (.ret (.call "first_place" (.cons (.var 1) (.cons (.var 2) .nil))))
    .nil) .nil)
  (.cons (.ret (.call "made" (.cons (.var 2) .nil)))
  .nil))))))⟩
noncomputable def F_law_word_of : Fn := ⟨4, ["_law_way", "_law_book", "_law_thing", "_law_other", "e", "_law_found"], 6,
  (.cons (.tryEx (.call "_law_asked" (.cons (.var 0) (.cons (.var 1) (.cons (.var 2) (.cons (.var 3) .nil))))) "BookError" (some 4) (.cons (.assign (.var 5) (.bin .add (.bin .mul (.str (Str.ofString "place ")) (.intOf (.isexc (.var 4) "NoPlace"))) (.bin .mul (.str (Str.ofString "word ")) (.intOf (.isexc (.var 4) "NoWord")))))
    (.cons (.assign (.var 5) (.bin .add (.bin .add (.var 5) (.bin .mul (.str (Str.ofString "text ")) (.intOf (.isexc (.var 4) "NoText")))) (.bin .mul (.str (Str.ofString "book ")) (.intOf (.isexc (.var 4) "NoBook")))))
    (.cons (.ret (.bin .add (.var 5) (.bin .mul (.str (Str.ofString "value")) (.intOf (.isexc (.var 4) "ValueError")))))
    .nil))))
  (.cons (.ret (.str (Str.ofString "good")))
  .nil))⟩
noncomputable def F_law_place_due : Fn := ⟨4, ["_law_way", "_law_thing", "_law_other", "_law_size"], 4,
  (.cons (.ite (.or (.not (.call "_law_whole" (.cons (.var 1) .nil))) (.or (.cmp (.var 1) (.one .lt (.int 0))) (.cmp (.var 1) (.one .gt (.bin .sub (.var 3) (.intOf (.cmp (.var 0) (.one .eq (.int 0))))))))) (.cons (.ret (.str (Str.ofString "place value")))
    .nil) .nil)
  (.cons (.ite (.or (.and (.cmp (.var 0) (.one .eq (.int 1))) (.cmp (.var 1) (.one .gt (.var 2)))) (.and (.cmp (.var 0) (.one .eq (.int 2))) (.cmp (.var 2) (.one .gt (.var 1))))) (.cons (.ret (.str (Str.ofString "place value")))
    .nil) .nil)
  (.cons (.ret (.str (Str.ofString "good")))
  .nil)))⟩
noncomputable def F_law : Fn := ⟨1, ["_law_script", "_law_text", "_law_book", "_law_size", "_law_way", "_law_cell", "_law_some", "_law_many", "_law_thing", "_law_due", "_law_other"], 12,
  (.cons (.assign (.var 1) (.comp (.call "_law_sign_by" (.cons (.call "_law_cell_at" (.cons (.var 0) (.cons (.bin .add (.int 3) (.bin .mod (.var 11) (.int 20))) .nil))) .nil)) (.var 11) (.range1 (.bin .mod (.call "_law_cell_at" (.cons (.var 0) (.cons (.int 0) .nil))) (.int 41)))))
  (.cons (.assign (.var 2) (.tup (.cons (.comp (.tup (.cons (.sub (.var 1) (.bin .mul (.int 2) (.var 11))) (.cons (.sub (.var 1) (.bin .add (.bin .mul (.int 2) (.var 11)) (.int 1))) .nil))) (.var 11) (.range1 (.bin .fdiv (.len (.var 1)) (.int 2)))) (.cons (.listOf (.range1 (.bin .fdiv (.len (.var 1)) (.int 2)))) .nil))))
  (.cons (.assign (.var 3) (.bin .mul (.int 2) (.len (.sub (.var 2) (.int 0)))))
  (.cons (.assign (.var 4) (.sub (.list (.cons (.int 0) (.cons (.int 1) (.cons (.int 2) (.cons (.int 3) (.cons (.int 4) (.cons (.int 5) (.cons (.int 5) (.cons (.int 5) .nil))))))))) (.bin .mod (.call "_law_cell_at" (.cons (.var 0) (.cons (.int 1) .nil))) (.int 8))))
  (.cons (.assign (.var 5) (.call "_law_cell_at" (.cons (.var 0) (.cons (.int 2) .nil))))
  (.cons (.ite (.cmp (.var 4) (.one .lt (.int 3))) (.cons (.assign (.var 10) (.bin .mod (.bin .fdiv (.var 5) (.int 12)) (.bin .add (.var 3) (.int 1))))
    (.cons (.assign (.var 6) (.list (.cons (.neg (.int 1)) (.cons (.var 3) (.cons (.bin .add (.var 3) (.int 1)) (.cons (.bin .sub (.var 3) (.int 1)) (.cons (.bin .pow (.int 10) (.int 40)) (.cons (.bool true) (.cons (.bool false) (.cons .none (.cons (.str (Str.ofString "0")) (.cons (.tup (.cons (.int 0) .nil)) (.cons (.list (.cons (.int 1) .nil)) (.cons (.bin .mod (.bin .fdiv (.var 5) (.int 12)) (.bin .add (.var 3) (.int 2))) .nil))))))))))))))
    (.cons (.assign (.var 8) (.sub (.var 6) (.bin .mod (.var 5) (.int 12))))
    (.cons (.ret (.cmp (.call "_law_word_of" (.cons (.var 4) (.cons (.var 2) (.cons (.var 8) (.cons (.var 10) .nil))))) (.one .eq (.call "_law_place_due" (.cons (.var 4) (.cons (.var 8) (.cons (.var 10) (.cons (.var 3) .nil))))))))
    .nil)))) .nil)
  (.cons (.ite (.cmp (.var 4) (.one .lt (.int 5))) (.cons (.assign (.var 6) (.list (.cons (.str (Str.ofString "")) (.cons (.bin .mul (.str (Str.ofString "a")) (.int 200)) (.cons (.bin .mul (.str (Str.ofString "a")) (.int 201)) (.cons .none (.cons (.int 5) (.cons (.list (.cons (.str (Str.ofString "a")) .nil)) (.cons (.tup (.cons (.str (Str.ofString "a")) .nil)) (.cons (.bool true) (.cons (.str (Str.ofString "b")) (.cons (.bin .mul (.str (Str.ofString "ab")) (.int 100)) (.cons (.bin .mul (.str (Str.ofString "ab")) (.int 101)) (.cons (.str (Str.ofString "\n")) .nil))))))))))))))
    (.cons (.assign (.var 8) (.sub (.var 6) (.bin .mod (.var 5) (.int 12))))
    (.cons (.assign (.var 9) (.str (Str.ofString "word value")))
    (.cons (.ite (.and (.isinst (.var 8) .str) (.cmp (.int 1) (.more .le (.len (.var 8)) (.one .le (.int 200))))) (.cons (.assign (.var 9) (.str (Str.ofString "good")))
      .nil) .nil)
    (.cons (.ret (.cmp (.call "_law_word_of" (.cons (.var 4) (.cons (.var 2) (.cons (.var 8) (.cons (.int 0) .nil))))) (.one .eq (.var 9))))
    .nil))))) .nil)
  (.cons (.assign (.var 6) (.list (.cons .none (.cons (.int 5) (.cons (.list (.cons (.str (Str.ofString "a")) .nil)) (.cons (.tup (.cons (.str (Str.ofString "a")) (.cons (.str (Str.ofString "b")) .nil))) (.cons (.bool true) (.cons (.str (Str.ofString "")) (.cons (.str (Str.ofString "a")) .nil)))))))))
  (.cons (.ite (.cmp (.bin .mod (.var 5) (.int 14)) (.one .lt (.int 7))) (.cons (.assign (.var 8) (.sub (.var 6) (.bin .mod (.var 5) (.int 14))))
    (.cons (.assign (.var 9) (.sub (.list (.cons (.str (Str.ofString "text value")) (.cons (.str (Str.ofString "good")) .nil))) (.intOf (.isinst (.var 8) .str))))
    (.cons (.ret (.cmp (.call "_law_word_of" (.cons (.var 4) (.cons (.var 2) (.cons (.var 8) (.cons (.int 0) .nil))))) (.one .eq (.var 9))))
    .nil))) .nil)
  (.cons (.assign (.var 7) (.bin .add (.int 995) (.bin .mod (.bin .fdiv (.var 5) (.int 14)) (.int 11))))
  (.cons (.assign (.var 8) (.bin .add (.bin .mul (.str (Str.ofString "ab")) (.bin .fdiv (.var 7) (.int 2))) (.bin .mul (.str (Str.ofString "c")) (.bin .mod (.var 7) (.int 2)))))
  (.cons (.assign (.var 9) (.sub (.list (.cons (.str (Str.ofString "good")) (.cons (.str (Str.ofString "text value")) .nil))) (.intOf (.cmp (.var 7) (.one .gt (.int 1000))))))
  (.cons (.ret (.cmp (.call "_law_word_of" (.cons (.var 4) (.cons (.var 2) (.cons (.var 8) (.cons (.int 0) .nil))))) (.one .eq (.var 9))))
  .nil)))))))))))))⟩
noncomputable def tbl : Tbl := [("is_whole", F_is_whole), ("is_text", F_is_text), ("is_symbol", F_is_symbol), ("is_rule", F_is_rule), ("need_book", F_need_book), ("length_of", F_length_of), ("lengths", F_lengths), ("total_of", F_total_of), ("sign_at", F_sign_at), ("cut", F_cut), ("best_pair", F_best_pair), ("replaced", F_replaced), ("made", F_made), ("piece_of", F_piece_of), ("crossing", F_crossing), ("two", F_two), ("piece_by", F_piece_by), ("whole", F_whole), ("how_often", F_how_often), ("first_place", F_first_place), ("_law_whole", F_law_whole), ("_law_cell_at", F_law_cell_at), ("_law_sign_by", F_law_sign_by), ("_law_asked", F_law_asked), ("_law_word_of", F_law_word_of), ("_law_place_due", F_law_place_due), ("law", F_law)]
noncomputable def gtab : List (String × V) := [("SIGNS", .str (Str.ofString " !\"#$&'()*+,-./0123456789:;<=>?@ABCDEFGHIJKLMNOPQRSTUVWXYZ[\\]^_`abcdefghijklmnopqrstuvwxyz{|}~\n")), ("MOST_RULES", .int 600), ("MOST_ROW", .int 2000), ("MOST_SIGNS", .int 1000), ("MOST_WORD", .int 200)]
noncomputable def ctab (ad : Nat) : Clss := [("Piece", ad, 3, [("size", .arg 0), ("head", .arg 1), ("tail", .arg 2), ("times", .val (.int 0)), ("first", .val .none)])]
end L09
end

section
set_option autoImplicit false
set_option linter.unusedSimpArgs false
set_option linter.unusedVariables false
namespace Lib
open PySem Mine
/-! law 09: walks by reckoning -/
noncomputable abbrev C9 (ad d : Nat) : Cx := cxN L09.tbl L09.gtab (L09.ctab ad) d
/-- stands as it is when it is given back -/
noncomputable def Fz (w : V) : Prop := ∀ H₁ H₂ : AH, frz H₁ H₂ 8 w = some w
/-- a call that gives something back -/
noncomputable def Any (C : Cx) (f : String) (vs : List V) (H : AH) : Prop := ∀ (Q : V → Prop) (X : String → Prop), (∀ w, Fz w → Q w) → C.call f vs H Q X
theorem has9 : Has3 L09.tbl L09.gtab := ⟨rfl, rfl, rfl, rfl, rfl, rfl, rfl, rfl⟩
/-- a pair of signs, as a rule -/
noncomputable def pr9 (p : Nat × Nat) : V := .tup [lst [p.1], lst [p.2]]
noncomputable def row9 (n : Nat) : List V := (List.range n).map fun (k : Nat) => .int k
noncomputable def bk9 (ps : List (Nat × Nat)) : V := .tup [.lst (ps.map pr9), .lst (row9 ps.length)]
noncomputable def Ok9 (ps : List (Nat × Nat)) : Prop := (∀ p ∈ ps, p.1 ∈ SG ∧ p.2 ∈ SG) ∧ ps.length ≤ 20
theorem mapO_same {f : V → Option V} : ∀ {l : List V}, (∀ v ∈ l, f v = some v) → mapO f l = some l
  | [], _ => rfl
  | v :: l, h => by
    show (match f v, mapO f l with
      | some x, some xs => some (x :: xs)
      | _, _ => none) = _
    rw [h v (List.mem_cons_self ..), mapO_same fun u hu => h u (List.mem_cons_of_mem _ hu)]
section
variable {ad d : Nat} {H : AH} {ps : List (Nat × Nat)}
theorem frz_lst {n : Nat} {l : List V} {H' : AH} (h : ∀ v ∈ l, frz H' H n v = some v) : frz H' H (n + 1) (.lst l) = some (.lst l) := by
  show (mapO (frz H' H n) l).map V.lst = _
  rw [mapO_same h]; rfl
theorem frz_ref {n a : Nat} {l : List V} {H' : AH} (h0 : H a = none) (h1 : H' a = some (.list l)) (h : ∀ v ∈ l, frz H' H n v = some v) : frz H' H (n + 1) (.ref a) = some (.lst l) := by
  show (match H a with
    | some _ => some (V.ref a)
    | none => (match H' a with
      | some (.list vs) => (mapO (frz H' H n) vs).map V.lst
      | _ => none)) = _
  rw [h0, h1]
  exact frz_lst (n := n) h
theorem frz_two {n : Nat} {x y x' y' : V} {H' : AH} (h1 : frz H' H n x = some x') (h2 : frz H' H n y = some y') : frz H' H (n + 1) (.tup [x, y]) = some (.tup [x', y']) := by
  show (match frz H' H n x, mapO (frz H' H n) [y] with
    | some x, some xs => some (x :: xs)
    | _, _ => none).map V.tup = _
  have : mapO (frz H' H n) [y] = some [y'] := by
    show (match frz H' H n y, some ([] : List V) with
      | some x, some xs => some (x :: xs)
      | _, _ => none) = _
    rw [h2]
  rw [h1, this]; rfl
theorem frz_row9 {n m : Nat} {H' : AH} : frz H' H (n + 2) (.lst (row9 m)) = some (.lst (row9 m)) := frz_lst fun v hv => by
  obtain ⟨k, _, rfl⟩ := List.mem_map.mp hv; rfl
theorem frz_bk {H' : AH} : frz H' H 8 (bk9 ps) = some (bk9 ps) := by
  exact frz_two (frz_lst fun v hv => by obtain ⟨p, _, rfl⟩ := List.mem_map.mp hv; rfl) frz_row9
/-! need_book on a good book -/
theorem tx_ch {c : Nat} (h : c ∈ SG) : Ca (C9 ad (d + 1)) "is_text" [lst [c]] H (.bool true) := by
  have e : isTx (lst [c]) = true := (by show ([c].all fun c => hasSub SIGNS ⟨#[c]⟩) = true; rw [List.all_cons, has_sign c h]; rfl)
  exact e ▸ ca_text3 has9 rfl
theorem pair_no {C : Cx} {ρ : List (Option V)} {B : AH} {a b : V} (h : ρ[0]? = some (some (.tup [a, b]))) : Ev C ⟨ρ, H, B⟩ (.or (.not (.isinst (.var 0) .tuple)) (.cmp (.len (.var 0)) (.one .ne (.int 2)))) (.bool false) := ev_or (p := false) (q := false) (ev_not (b := true) (ev_isi (ev_var h) rfl)) fun _ => ev_cmp (ev_len (n := 2) (ev_var h) rfl) (ec_one ev_int cm_ne)
theorem wh_ch {s : Str} : Ca (C9 ad (d + 1)) "is_whole" [.str s] H (.bool false) := ca_of (fn := L09.F_is_whole) rfl rfl (by decide) fun _ _ q => q
theorem wh_nt {i : Int} : Ca (C9 ad (d + 1)) "is_whole" [.int i] H (.bool true) := ca_of (fn := L09.F_is_whole) rfl rfl (by decide) fun _ _ q => q
theorem sy_ch {c : Nat} {n : V} (h : c ∈ SG) : Ca (C9 ad (d + 2)) "is_symbol" [lst [c], n] H (.bool true) := ca_of (fn := L09.F_is_symbol) rfl rfl (by decide) fun Q X q => w_iff (fun _ _ q => wh_ch _ _ q) (kn_nil (r1 (ev_and (p := true) (q := true) (fun _ _ q => tx_ch h _ _ q) fun _ => ev_cmp (ev_len (n := 1) (ev_var rfl) rfl) (ec_one ev_int cm_eq)) rfl q))
theorem sy_int {k n : Nat} (h : k < n) : Ca (C9 ad (d + 2)) "is_symbol" [.int k, .int n] H (.bool true) := ca_of (fn := L09.F_is_symbol) rfl rfl (by decide) fun Q X q => by
  have q : Q (.bool (decide ((0 : Int) ≤ k) && decide ((k : Int) < n))) := by rw [decide_eq_true (Int.natCast_nonneg k), decide_eq_true (Int.ofNat_lt.mpr h)]; exact q
  exact w_ift (fun _ _ q => wh_nt _ _ q) (r2 (ev_cmp ev_int (ec_more (ev_var rfl) cm_le fun _ => ec_one (ev_var rfl) cm_lt)) rfl q)
theorem ru_ch {p : Nat × Nat} {n : V} (h : p.1 ∈ SG ∧ p.2 ∈ SG) : Ca (C9 ad (d + 3)) "is_rule" [pr9 p, n] H (.bool true) := ca_of (fn := L09.F_is_rule) rfl rfl (by decide) fun Q X q => w_iff (pair_no rfl) (kn_nil (r1 (w := .bool true) (fun _ _ q => sy_ch h.1 _ _ (sy_ch h.2 _ _ q)) rfl q))
section
variable {Q : Fl → St → Prop} {X : String → St → Prop} {r : Bl} {v0 v2 : V}
theorem lp_ru (h : Ok9 ps) (hr : ∀ x, WB (C9 ad (d + 3)) r ⟨[some v0, some (.lst (ps.map pr9)), some v2, x, none], H, H⟩ Q X) : ∀ (m k : Nat) (x : Option V), k + m = ps.length → Fo (C9 ad (d + 3)) (.var 3) bodyR r Q X (upL k ps.length) ⟨[some v0, some (.lst (ps.map pr9)), some v2, x, none], H, H⟩
  | 0, k, x, e => by rw [upL_nil (by omega)]; exact fo_nil (hr x)
  | m + 1, k, x, e => by
    have hk : k < ps.length := by omega
    rw [upL_cons (Int.ofNat_lt.mpr hk)]
    exact fo_cons (ρ' := [some v0, some (.lst (ps.map pr9)), some v2, some (.int k), none]) rfl (w_iff (fun _ _ q => sb_lst (H := H) (by rw [List.getElem?_map, List.getElem?_eq_getElem hk]; rfl) _ (ru_ch (h.1 _ (List.getElem_mem hk)) _ _ q)) (kn_nil (kf_nil (lp_ru h hr m (k + 1) _ (by omega)))))
theorem lp_sy {x3 : Option V} (hr : ∀ x, WB (C9 ad (d + 3)) r ⟨[some v0, some (.lst (ps.map pr9)), some v2, x3, x], H, H⟩ Q X) : ∀ (ks : List Nat) (x : Option V), (∀ k ∈ ks, k < ps.length) → Fo (C9 ad (d + 3)) (.var 4) bodyS r Q X (ks.map fun (k : Nat) => .int k) ⟨[some v0, some (.lst (ps.map pr9)), some v2, x3, x], H, H⟩
  | [], x, _ => fo_nil (hr x)
  | k :: ks, x, h => fo_cons (ρ' := [some v0, some (.lst (ps.map pr9)), some v2, x3, some (.int k)]) rfl (w_iff (ev_not (b := true) (ev_call (evs_cons (ev_var rfl) (evs_cons (ev_len (n := ps.length) (ev_var rfl) (show some (ps.map pr9).length = _ from congrArg some (List.length_map ..))) evs_nil)) (sy_int (d := d + 1) (h k (List.mem_cons_self ..))))) (kn_nil (kf_nil (lp_sy hr ks _ fun j hj => h j (List.mem_cons_of_mem _ hj)))))
end
theorem ca_need (h : Ok9 ps) : Ca (C9 ad (d + 4)) "need_book" [bk9 ps] H (bk9 ps) := ca_of (fn := L09.F_need_book) rfl rfl (by decide) fun Q X q => by
  have h2 := h.2
  have hl : (ps.map pr9).length = ps.length := List.length_map ..
  have hl2 : (row9 ps.length).length = ps.length := by rw [row9, List.length_map, List.length_range]
  refine w_iff (pair_no rfl) (kn_nil (w_asg (w := .lst (ps.map pr9)) (fun _ _ q => q) rfl (w_asg (w := .lst (row9 ps.length)) (fun _ _ q => q) rfl (w_iff (fun _ _ q => q) (kn_nil (w_iff ?_ (kn_nil (w_for (ei_range1 (ev_len (n := ps.length) (ev_var rfl) (congrArg some hl)) ⟨by omega, by omega⟩) (.inr nofun) (lp_ru h (fun x => ?_) ps.length 0 _ (Nat.zero_add _))))))))))
  · exact ev_or (p := false) (q := false) (decide_eq_false (show ¬ ((ps.length : Int) > 600) by omega) ▸ ev_cmp (ev_len (ev_var rfl) (congrArg some hl)) (ec_one (fun _ _ q => q) cm_gt)) fun _ => decide_eq_false (show ¬ ((ps.length : Int) > 2000) by omega) ▸ ev_cmp (ev_len (ev_var rfl) (congrArg some hl2)) (ec_one (fun _ _ q => q) cm_gt)
  · exact w_for (xs := row9 ps.length) (ds := []) (fun _ _ q => q) (.inr nofun) (lp_sy (fun x => r1 (ev_var rfl) frz_bk q) _ _ fun k hk => List.mem_range.mp hk)
theorem len_ch {s : Str} {u : V} : Ca (C9 ad (d + 1)) "length_of" [.str s, u] H (.int 1) := ca_of (fn := L09.F_length_of) rfl rfl (by decide) fun _ _ q => q
theorem len_ru {k : Nat} {u w : V} (h : Sb H u (.int k) w) (hf : frz H H 8 w = some w) : Ca (C9 ad (d + 1)) "length_of" [.int k, u] H w := ca_of (fn := L09.F_length_of) rfl rfl (by decide) fun Q X q => h _ (pk_of hf q)
noncomputable def two2 (n : Nat) : List V := List.replicate n (.int 2)
theorem len_at {k n : Nat} (h : k < n) : Ca (C9 ad (d + 1)) "length_of" [.int k, .lst (two2 n)] H (.int 2) := len_ru (sb_lst (by rw [two2, List.getElem?_replicate, if_pos h])) rfl
noncomputable def lensB : Bl := .cons (.append (.var 1) (.pure (.bin .add (.call "length_of" (.cons (.sub (.var 2) (.int 0)) (.cons (.var 1) .nil))) (.call "length_of" (.cons (.sub (.var 2) (.int 1)) (.cons (.var 1) .nil)))))) .nil
theorem lens_loop {Q : V → Prop} {X : String → St → Prop} {bk : V} {a : Nat} (hB : H a = none) : ∀ (l : List (Nat × Nat)) (m : Nat) (H' : AH) (x : Option V), m + l.length ≤ 1000 → H' a = some (.list (two2 m)) → Q (.lst (two2 (m + l.length))) →
    Fo (C9 ad (d + 1)) (.var 2) lensB (.cons (.ret (.var 1)) .nil) (PK H Q) X (l.map pr9) ⟨[some bk, some (.ref a), x], H', H⟩
  | [], m, H', x, hl, ha, q => fo_nil (w_ret (w := .ref a) (fun _ _ q => q) (pk_of (frz_ref hB ha fun v hv => by rw [List.eq_of_mem_replicate hv]; rfl) q))
  | p :: l, m, H', x, hl, ha, q => fo_cons (ρ' := [some bk, some (.ref a), some (pr9 p)]) rfl (w_app (w := .int 2) rfl ha hB (fun _ _ q => len_ch _ _ (len_ch _ _ q)) (by rw [two2, List.length_replicate]; have hz : sizeLine = 16777216 := rfl; simp at hl; omega) (kf_nil (lens_loop hB l (m + 1) _ _ (by simp at hl; omega) (by rw [upd_eq, two2, two2, List.replicate_succ']) (by rw [show m + 1 + l.length = m + (p :: l).length from by simp; omega]; exact q))))
theorem ca_lens (h : Ok9 ps) : Ca (C9 ad (d + 5)) "lengths" [bk9 ps] H (.lst (two2 ps.length)) := ca_of (fn := L09.F_lengths) rfl rfl (by decide) fun Q X q => w_exp (w := bk9 ps) (fun _ _ q => ca_need h _ _ q) (w_own0 rfl fun a h1 h2 => w_for (xs := ps.map pr9) (ds := []) (fun _ _ q => q) (.inr nofun) (lens_loop (d := d + 3) h2 ps 0 _ none (by have := h.2; omega) upd_eq (by rw [Nat.zero_add]; exact q)))
theorem sum_two : ∀ n : Nat, (List.replicate n (2 : Int)).sum = 2 * n
  | 0 => rfl
  | n + 1 => by rw [List.replicate_succ, List.sum_cons, sum_two n]; omega
theorem ints_two : ∀ n : Nat, intsOf (two2 n) = some (List.replicate n 2)
  | 0 => rfl
  | n + 1 => by
    show (intsOf (two2 n)).map _ = _
    rw [ints_two n]; rfl
theorem map_two {n : Nat} {α : Type} {l : List α} (h : l.length = n) : l.map (fun _ => V.int 2) = two2 n := by
  rw [List.map_const', h]; rfl
theorem ca_total (hn : ps.length ≤ 20) : Ca (C9 ad (d + 2)) "total_of" [bk9 ps, .lst (two2 ps.length)] H (.int ((2 * ps.length : Nat) : Int)) := ca_of (fn := L09.F_total_of) rfl rfl (by decide) fun Q X q => by
  have e := ev_comp (C := C9 ad (d + 1)) (ρ := [some (bk9 ps), some (.lst (two2 ps.length)), none]) (H := H) (B := H) (elt := .call "length_of" (.cons (.var 2) (.cons (.var 1) .nil))) (i := 2) (it := .seq (.sub (.var 0) (.int 1))) (v := fun (k : Nat) => V.int k) (g := fun _ => V.int 2) (r := List.range ps.length) (ds := []) (fun _ _ q => q) (by rw [List.length_range]; have hz : sizeLine = 16777216 := rfl; omega) (show 2 < 3 by omega) fun k hk => fun _ _ q => len_at (List.mem_range.mp hk) _ _ q
  rw [map_two (List.length_range ..)] at e
  refine r1 (ev_sum e rfl (ints_two _)) rfl ?_
  rw [sum_two]; exact q
end
end Lib
end

section
set_option autoImplicit false
set_option linter.unusedSimpArgs false
set_option linter.unusedVariables false
namespace Lib
open PySem Mine
/-! law 09: sign_at -/
section
variable {ad d : Nat} {H : AH} {ps : List (Nat × Nat)}
theorem sb_row9 {k n : Nat} (h : k < n) : Sb H (.lst (row9 n)) (.int k) (.int k) := sb_lst (by rw [row9, List.getElem?_map, List.getElem?_range h]; rfl)
theorem sb_rule9 {k : Nat} (h : k < ps.length) : Sb H (.lst (ps.map pr9)) (.int k) (pr9 ps[k]) := sb_lst (by rw [List.getElem?_map, List.getElem?_eq_getElem h]; rfl)
/-- is_whole and a place -/
noncomputable def inR (v : V) (n : Nat) : Bool := match v with
  | .int i => decide (0 ≤ i) && decide (i < (n : Int))
  | _ => false
noncomputable def sgT : E := .or (.not (.call "is_whole" (.cons (.var 1) .nil))) (.not (.cmp (.int 0) (.more .le (.var 1) (.one .lt (.call "total_of" (.cons (.var 0) (.cons (.var 2) .nil)))))))
theorem ev_sgT {v : V} {r : List (Option V)} (hn : ps.length ≤ 20) (hp : pl v = true) : Ev (C9 ad (d + 2)) ⟨some (bk9 ps) :: some v :: some (.lst (two2 ps.length)) :: r, H, H⟩ sgT (.bool (!inR v (2 * ps.length))) := by
  have hw : Ca (C9 ad (d + 2)) "is_whole" [v] H (.bool (isWh v)) := ca_whole3 (d := d + 1) has9 hp
  cases v with
  | int i =>
    have e := ev_or (C := C9 ad (d + 2)) (st := ⟨some (bk9 ps) :: some (.int i) :: some (.lst (two2 ps.length)) :: r, H, H⟩) (p := false) (a := .not (.call "is_whole" (.cons (.var 1) .nil))) (fun _ _ q => hw _ _ q) fun _ => ev_not (ev_cmp (a := .int 0) ev_int (ec_more (e := .var 1) (fun _ _ q => q) cm_le fun _ => ec_one (e := .call "total_of" (.cons (.var 0) (.cons (.var 2) .nil))) (fun _ _ q => ca_total hn _ _ q) cm_lt))
    exact e
  | _ => exact fun _ _ q => hw _ _ q
theorem sign_bad {v : V} (h : Ok9 ps) (hp : pl v = true) (hv : inR v (2 * ps.length) = false) : Cr (C9 ad (d + 6)) "sign_at" [bk9 ps, v] H "NoPlace" := cr_of (fn := L09.F_sign_at) rfl rfl (by decide) fun Q X q => by
  have e := ev_sgT (ad := ad) (d := d + 3) (H := H) (r := [none, none, none, none, none]) h.2 hp
  rw [hv] at e
  exact w_asg (w := .lst (two2 ps.length)) (fun _ _ q => ca_lens h _ _ q) rfl (w_ift e (x_rz ev_str q))
noncomputable def sgW : E := .cmp (.var 1) (.one .ge (.call "length_of" (.cons (.sub (.sub (.var 0) (.int 1)) (.var 3)) (.cons (.var 2) .nil))))
noncomputable def sgB : Bl := .cons (.assign (.var 1) (.bin .sub (.var 1) (.call "length_of" (.cons (.sub (.sub (.var 0) (.int 1)) (.var 3)) (.cons (.var 2) .nil))))) (.cons (.assign (.var 3) (.bin .add (.var 3) (.int 1))) .nil)
theorem ev_sgW {k p : Nat} {r : List (Option V)} (hk : k < ps.length) : Ev (C9 ad (d + 1)) ⟨some (bk9 ps) :: some (.int p) :: some (.lst (two2 ps.length)) :: some (.int k) :: r, H, H⟩ sgW (.bool (decide ((p : Int) ≥ 2))) := fun _ _ q => sb_row9 (H := H) hk _ (len_at hk _ _ q)
theorem sg_loop {Q : Fl → St → Prop} {X : String → St → Prop} {r : Bl} (hr : ∀ (k p : Nat), k < ps.length → p < 2 → WB (C9 ad (d + 1)) r ⟨[some (bk9 ps), some (.int p), some (.lst (two2 ps.length)), some (.int k), none, none, none, none], H, H⟩ Q X) : ∀ (m k p : Nat), p ≤ m → k + p / 2 < ps.length →
    Wh (C9 ad (d + 1)) sgW sgB r Q X (m + 1) ⟨[some (bk9 ps), some (.int p), some (.lst (two2 ps.length)), some (.int k), none, none, none, none], H, H⟩
  | 0, k, p, hm, hp => by
    have e := ev_sgW (ad := ad) (d := d) (H := H) (ps := ps) (k := k) (p := p) (r := [none, none, none, none]) (by omega)
    rw [decide_eq_false (by omega)] at e
    exact wh_end e (hr k p (by omega) (by omega))
  | m + 1, k, p, hm, hp => by
    have hk : k < ps.length := Nat.lt_of_le_of_lt (Nat.le_add_right ..) hp
    have e := ev_sgW (ad := ad) (d := d) (H := H) (k := k) (p := p) (r := [none, none, none, none]) hk
    by_cases h2 : p < 2
    · rw [decide_eq_false (by omega)] at e
      exact wh_end e (hr k p hk h2)
    · rw [decide_eq_true (by omega)] at e
      refine wh_step e (w_asg (w := .int ((p - 2 : Nat) : Int)) (fun _ _ q => sb_row9 (H := H) hk _ (len_at hk _ _ ?_)) rfl (w_asg (w := .int ((k + 1 : Nat) : Int)) (fun _ _ q => q) rfl (kw_nil (sg_loop hr m (k + 1) (p - 2) (by omega) (by omega)))))
      rw [show ((p - 2 : Nat) : Int) = (p : Int) - 2 from by omega] at q; exact q
theorem sign_good {i : Int} (h : Ok9 ps) (hv : inR (.int i) (2 * ps.length) = true) : Any (C9 ad (d + 6)) "sign_at" [bk9 ps, .int i] H := fun Q X q => by
  have e := ev_sgT (ad := ad) (d := d + 3) (H := H) (v := .int i) (r := [none, none, none, none, none]) h.2 rfl
  rw [hv] at e
  have hi : 0 ≤ i ∧ i < ((2 * ps.length : Nat) : Int) := by simpa [inR] using hv
  obtain ⟨p, rfl⟩ := Int.eq_ofNat_of_zero_le hi.1
  refine call_of (fn := L09.F_sign_at) rfl rfl (by decide) (w_asg (w := .lst (two2 ps.length)) (fun _ _ q => ca_lens h _ _ q) rfl (w_iff e (kn_nil (w_asg (w := .int 0) (fun _ _ q => q) rfl (w_while (p + 1) (sg_loop (d := d + 4) (fun k p hk hp => ?_) p 0 p (Nat.le_refl _) (by omega)))))))
  refine w_asg (w := .int k) (fun _ _ q => sb_row9 (H := H) hk _ q) rfl (w_own0 rfl fun a h1 h2 => w_while 2 (wh_step (fun _ _ q => q) (w_app (w := .int k) rfl upd_eq h2 (fun _ _ q => q) (by decide) (w_asg (w := pr9 ps[k]) (fun _ _ q => sb_rule9 (H := H) hk _ q) rfl (w_asg (w := .int 1) (fun _ _ q => len_ch _ _ q) rfl (w_asg (w := lst [ps[k].1]) (fun _ _ q => q) rfl ?_))))))
  have fin : ∀ {ρ : List (Option V)} {c : Nat} {b : Bl}, ρ[4]? = some (some (lst [c])) → ρ[5]? = some (some (.ref a)) → Wh (C9 ad (d + 5)) (.not (.isinst (.var 4) .str)) b (.cons (.ret (.tup (.cons (.var 4) (.cons (.var 5) .nil)))) .nil) (PK H Q) (fun x _ => X x) 1 ⟨ρ, (H.upd a (.list [])).upd a (.list ([] ++ [.int k])), H⟩ := fun h4 h5 => wh_end (ev_not (b := true) (ev_isi (ev_var h4) rfl)) (w_ret (ev_tup (evs_cons (ev_var h4) (evs_cons (ev_var h5) evs_nil)) rfl) (pk_of (frz_two (n := 7) rfl (frz_ref h2 upd_eq fun v hv => by rw [List.mem_singleton.mp hv]; rfl)) (q _ fun _ _ => frz_two rfl (frz_lst fun v hv => by rw [List.mem_singleton.mp hv]; rfl))))
  refine w_if (decide ((p : Int) ≥ 1)) (fun _ _ q => q) (fun _ => ?_) fun _ => kn_nil (kw_nil (fin rfl rfl))
  exact w_asg (w := .int ((p : Int) - 1)) (fun _ _ q => q) rfl (w_asg (w := lst [ps[k].2]) (fun _ _ q => q) rfl (kn_nil (kw_nil (fin rfl rfl))))
end
end Lib
end

section
set_option autoImplicit false
set_option linter.unusedSimpArgs false
set_option linter.unusedVariables false
namespace Lib
open PySem Mine
/-! law 09: cut -/
inductive Wt where
  | ru (k : Nat) (i : Int)
  | ch (c : Nat) (i : Int)
noncomputable def Wt.v : Wt → V
  | .ru k i => .tup [.int k, .int i]
  | .ch c i => .tup [lst [c], .int i]
noncomputable def Wt.ok (n : Nat) : Wt → Prop
  | .ru k _ => k < n
  | .ch _ _ => True
/-- how many signs may yet come of it; how many turns -/
noncomputable def pot : List Wt → Nat
  | [] => 0
  | .ru _ _ :: r => 2 + pot r
  | .ch _ _ :: r => 1 + pot r
noncomputable def wgt : List Wt → Nat
  | [] => 0
  | .ru _ _ :: r => 3 + wgt r
  | .ch _ _ :: r => 1 + wgt r
theorem pot_app : ∀ (a b : List Wt), pot (a ++ b) = pot a + pot b
  | [], b => (Nat.zero_add _).symm
  | .ru _ _ :: a, b => by show 2 + pot (a ++ b) = 2 + pot a + pot b; rw [pot_app a b, Nat.add_assoc]
  | .ch _ _ :: a, b => by show 1 + pot (a ++ b) = 1 + pot a + pot b; rw [pot_app a b, Nat.add_assoc]
theorem wgt_app : ∀ (a b : List Wt), wgt (a ++ b) = wgt a + wgt b
  | [], b => (Nat.zero_add _).symm
  | .ru _ _ :: a, b => by show 3 + wgt (a ++ b) = 3 + wgt a + wgt b; rw [wgt_app a b, Nat.add_assoc]
  | .ch _ _ :: a, b => by show 1 + wgt (a ++ b) = 1 + wgt a + wgt b; rw [wgt_app a b, Nat.add_assoc]
theorem len_pot : ∀ (a : List Wt), a.length ≤ pot a
  | [] => Nat.le_refl 0
  | .ru _ _ :: a => by have := len_pot a; show a.length + 1 ≤ 2 + pot a; omega
  | .ch _ _ :: a => by have := len_pot a; show a.length + 1 ≤ 1 + pot a; omega
theorem strs1 : ∀ (cs : List Nat), strsOf (cs.map fun c => lst [c]) = some (cs.map fun c => ⟨#[c]⟩)
  | [] => rfl
  | c :: cs => by
    show (strsOf (cs.map fun c => lst [c])).map _ = _
    rw [strs1 cs]; rfl
theorem lenAll1 : ∀ (cs : List Nat), lenAll (cs.map fun c => (⟨#[c]⟩ : Str)) = cs.length
  | [] => rfl
  | c :: cs => by
    show 1 + lenAll (cs.map fun c => (⟨#[c]⟩ : Str)) = cs.length + 1
    rw [lenAll1 cs, Nat.add_comm]
theorem le2 {x y : V} : [x, y].length ≤ sizeLine := Nat.le_of_ble_eq_true rfl
theorem size_ref {H : AH} {a : Nat} {l : List V} (h : H a = some (.list l)) : sizeV H (.ref a) = some l.length := by
  show (match H a with
    | some (.list vs) => some vs.length
    | _ => none) = _
  rw [h]
section
variable {ad d : Nat} {H : AH} {ps : List (Nat × Nat)}
noncomputable def ctB : Bl := .cons (.assign (.var 6) (.bin .sub (.var 6) (.call "length_of" (.cons (.var 7) (.cons (.var 3) .nil))))) (.cons (.append (.var 5) (.pure (.tup (.cons (.var 7) (.cons (.var 6) .nil))))) .nil)
theorem ct_for {Q : Fl → St → Prop} {X : String → St → Prop} {r : Bl} {v1 v2 v4 : V} {a : Nat} (hn : ps.length ≤ 20) (hB : H a = none)
    (hr : ∀ ws b x7 H', (∀ w ∈ ws, Wt.ok ps.length w) → pot ws ≤ 40 → H' a = some (.list (ws.map Wt.v)) → WB (C9 ad (d + 1)) r ⟨[some (bk9 ps), some v1, some v2, some (.lst (two2 ps.length)), some v4, some (.ref a), some (.int b), x7, none, none, none, none, none], H', H⟩ Q X) :
    ∀ (ks : List Nat) (ws : List Wt) (b : Int) (x7 : Option V) (H' : AH), (∀ k ∈ ks, k < ps.length) → (∀ w ∈ ws, Wt.ok ps.length w) → pot ws + 2 * ks.length ≤ 40 → H' a = some (.list (ws.map Wt.v)) →
    Fo (C9 ad (d + 1)) (.var 7) ctB r Q X (ks.map fun (k : Nat) => V.int k) ⟨[some (bk9 ps), some v1, some v2, some (.lst (two2 ps.length)), some v4, some (.ref a), some (.int b), x7, none, none, none, none, none], H', H⟩
  | [], ws, b, x7, H', _, hw, hp, ha => fo_nil (hr ws b x7 H' hw hp ha)
  | k :: ks, ws, b, x7, H', hk, hw, hp, ha => by
    have hp : pot ws + 2 * (ks.length + 1) ≤ 40 := hp
    refine fo_cons (ρ' := [some (bk9 ps), some v1, some v2, some (.lst (two2 ps.length)), some v4, some (.ref a), some (.int b), some (.int k), none, none, none, none, none]) rfl (w_asg (w := .int (b - 2)) (fun _ _ q => len_at (hk k (List.mem_cons_self ..)) _ _ q) rfl (w_app (w := Wt.v (.ru k (b - 2))) rfl ha hB (fun _ _ q => ⟨le2, q⟩) ?_ (kf_nil (ct_for hn hB hr ks (ws ++ [.ru k (b - 2)]) (b - 2) _ _ (fun j hj => hk j (List.mem_cons_of_mem _ hj)) ?_ ?_ (by rw [upd_eq, List.map_append]; rfl)))))
    · have := len_pot ws
      rw [List.length_map]
      exact Nat.lt_of_le_of_lt (show ws.length ≤ 40 by omega) (by decide)
    · intro w hm
      rcases List.mem_append.mp hm with hm | hm
      · exact hw w hm
      · rw [List.mem_singleton.mp hm]; exact hk k (List.mem_cons_self ..)
    · rw [pot_app]; show pot ws + 2 + _ ≤ 40; omega
noncomputable def cwT : E := .cmp (.len (.var 5)) (.one .gt (.int 0))
noncomputable def cwX : Bl := .cons (.ite (.isinst (.sub (.var 10) (.int 0)) .str) (.cons (.append (.var 8) (.pure (.sub (.var 10) (.int 0)))) .nil) (.cons (.assign (.var 9) (.bin .add (.var 9) (.int 1))) (.cons (.assign (.var 12) (.sub (.sub (.var 0) (.int 0)) (.sub (.var 10) (.int 0))))
        (.cons (.append (.var 5) (.pure (.tup (.cons (.sub (.var 12) (.int 1)) (.cons (.bin .add (.sub (.var 10) (.int 1)) (.call "length_of" (.cons (.sub (.var 12) (.int 0)) (.cons (.var 3) .nil)))) .nil)))))
        (.cons (.append (.var 5) (.pure (.tup (.cons (.sub (.var 12) (.int 0)) (.cons (.sub (.var 10) (.int 1)) .nil))))) .nil))))) .nil
noncomputable def cwB : Bl := .cons (.pop (.var 10) (.var 5)) (.cons (.assign (.var 11) (.bin .add (.sub (.var 10) (.int 1)) (.call "length_of" (.cons (.sub (.var 10) (.int 0)) (.cons (.var 3) .nil))))) (.cons (.ite (.cmp (.max2 (.sub (.var 10) (.int 1)) (.var 1)) (.one .lt (.min2 (.var 11) (.var 2)))) cwX .nil) .nil))
noncomputable def cwR : Bl := .cons (.ret (.tup (.cons (.join (.str (Str.ofString "")) (.var 8)) (.cons (.var 9) .nil)))) .nil
theorem ct_while {Q : V → Prop} {X : String → St → Prop} {i1 i2 : Int} {v4 : V} {x6 x7 : Option V} {a c : Nat} (hBa : H a = none) (hBc : H c = none) (hac : a ≠ c) (q : ∀ w, Fz w → Q w) :
    ∀ (m : Nat) (ws : List Wt) (cs : List Nat) (o : Int) (y10 y11 y12 : Option V) (H' : AH), wgt ws ≤ m → (∀ w ∈ ws, Wt.ok ps.length w) → pot ws + cs.length ≤ 40 → H' a = some (.list (ws.map Wt.v)) → H' c = some (.list (cs.map fun c => lst [c])) →
    Wh (C9 ad (d + 1)) cwT cwB cwR (PK H Q) X (m + 1) ⟨[some (bk9 ps), some (.int i1), some (.int i2), some (.lst (two2 ps.length)), some v4, some (.ref a), x6, x7, some (.ref c), some (.int o), y10, y11, y12], H', H⟩ := by
  have fin : ∀ (m : Nat) (cs : List Nat) (o : Int) (y10 y11 y12 : Option V) (H' : AH), cs.length ≤ 40 → H' a = some (.list []) → H' c = some (.list (cs.map fun c => lst [c])) →
      Wh (C9 ad (d + 1)) cwT cwB cwR (PK H Q) X (m + 1) ⟨[some (bk9 ps), some (.int i1), some (.int i2), some (.lst (two2 ps.length)), some v4, some (.ref a), x6, x7, some (.ref c), some (.int o), y10, y11, y12], H', H⟩ := fun m cs o y10 y11 y12 H' hp ha hc => wh_end (ev_cmp (ev_len (n := 0) (ev_var rfl) (size_ref ha)) (ec_one ev_int cm_gt)) (w_ret (ev_tup (evs_cons (ev_join ev_str (ev_var rfl) (show seqL H' (.ref c) = _ from by simp only [sq_none, sq_bool, sq_int, sq_str, sq_tup, sq_lst, sq_ref, sq_inst, sq_iref, sq_exc, sq_dct, hc]) (strs1 cs) (by
        rw [lenAll1]
        exact Nat.le_trans (show cs.length + 0 * _ ≤ 40 by omega) (by decide))) (evs_cons (ev_var rfl) evs_nil)) rfl) (pk_of (frz_two rfl rfl) (q _ fun _ _ => frz_two rfl rfl)))
  intro m
  induction m with
  | zero =>
    intro ws cs o y10 y11 y12 H' hm hw hp ha hc
    cases ws with
    | nil => exact fin 0 cs o _ _ _ H' (by omega) ha hc
    | cons w ws => cases w <;> (simp only [wgt] at hm; omega)
  | succ m ih =>
    intro ws cs o y10 y11 y12 H' hm hw hp ha hc
    rcases ws.eq_nil_or_concat with rfl | ⟨ws, w, rfl⟩
    · exact fin (m + 1) cs o _ _ _ H' (by simp only [pot] at hp; omega) ha hc
    rw [List.concat_eq_append] at *
    rw [List.map_append] at ha
    rw [wgt_app] at hm
    rw [pot_app] at hp
    have hl := len_pot ws
    have hls : ∀ x, x ≤ 41 → x < sizeLine := fun x h => Nat.lt_of_le_of_lt h (by decide)
    refine wh_step ?_ (w_pop (vs := ws.map Wt.v) (w := w.v) rfl ha hBa rfl ?_)
    · have e := ev_cmp (C := C9 ad (d + 1)) (ev_len (n := ((ws.map Wt.v) ++ [w.v]).length) (a := .var 5) (ev_var (ρ := [some (bk9 ps), some (.int i1), some (.int i2), some (.lst (two2 ps.length)), some v4, some (.ref a), x6, x7, some (.ref c), some (.int o), y10, y11, y12]) (H := H') (B := H) rfl) (size_ref ha)) (ec_one (ev_int (i := 0)) cm_gt)
      rw [decide_eq_true (by simp)] at e
      exact e
    have hok := hw w (by simp)
    have hw' : ∀ u ∈ ws, Wt.ok ps.length u := fun u hu => hw u (by simp [hu])
    have hca : (H'.upd a (.list (ws.map Wt.v))) c = some (.list (cs.map fun c => lst [c])) := by rw [upd_ne (Ne.symm hac)]; exact hc
    cases w with
    | ch s i =>
      have hm : wgt ws + 1 ≤ m + 1 := hm
      have hp : pot ws + 1 + cs.length ≤ 40 := hp
      refine w_asg (w := .int (i + 1)) (fun _ _ q => len_ch _ _ q) rfl (w_if _ (fun _ _ q => q) (fun _ => w_ift (fun _ _ q => q) (w_app (w := lst [s]) rfl hca hBc (fun _ _ q => q) (hls _ (by rw [List.length_map]; omega)) (kn_nil (kn_nil (kw_nil ?_))))) fun _ => kn_nil (kw_nil ?_))
      · exact ih ws (cs ++ [s]) o _ _ _ _ (by omega) hw' (by simp; omega) (by rw [upd_ne hac, upd_eq]) (by rw [upd_eq, List.map_append]; rfl)
      · exact ih ws cs o _ _ _ _ (by omega) hw' (by omega) upd_eq hca
    | ru k i =>
      have hk : k < ps.length := hok
      have hm : wgt ws + 3 ≤ m + 1 := hm
      have hp : pot ws + 2 + cs.length ≤ 40 := hp
      refine w_asg (w := .int (i + 2)) (fun _ _ q => len_at hk _ _ q) rfl (w_if _ (fun _ _ q => q) (fun _ => w_iff (fun _ _ q => q) (w_asg (w := .int (o + 1)) (fun _ _ q => q) rfl (w_asg (w := pr9 ps[k]) (fun _ _ q => sb_rule9 (H := H'.upd a (.list (ws.map Wt.v))) hk _ q) rfl (w_app (w := Wt.v (.ch ps[k].2 (i + 1))) rfl upd_eq hBa (fun _ _ q => len_ch _ _ ⟨le2, q⟩) (hls _ (by rw [List.length_map]; omega)) (w_app (w := Wt.v (.ch ps[k].1 i)) rfl upd_eq hBa (fun _ _ q => ⟨le2, q⟩) (hls _ (by rw [List.length_append, List.length_map]; show ws.length + 1 ≤ 41; omega)) (kn_nil (kn_nil (kw_nil ?_)))))))) fun _ => kn_nil (kw_nil ?_))
      · refine ih (ws ++ [.ch ps[k].2 (i + 1), .ch ps[k].1 i]) cs (o + 1) _ _ _ _ (by rw [wgt_app]; show wgt ws + 2 ≤ m; omega) (fun u hu => ?_) (by rw [pot_app]; show pot ws + 2 + cs.length ≤ 40; omega) (by rw [upd_eq, List.map_append, List.append_assoc]; rfl) (by rw [upd_ne (Ne.symm hac), upd_ne (Ne.symm hac)]; exact hca)
        rcases List.mem_append.mp hu with hu | hu
        · exact hw' u hu
        · simp at hu; rcases hu with rfl | rfl <;> trivial
      · exact ih ws cs o _ _ _ _ (by omega) hw' (by omega) upd_eq hca
end
end Lib
end

section
set_option autoImplicit false
set_option linter.unusedSimpArgs false
set_option linter.unusedVariables false
namespace Lib
open PySem Mine
section
variable {ad d : Nat} {H : AH} {ps : List (Nat × Nat)}
theorem wh_int {v : V} (h : isWh v = true) : ∃ i, v = .int i := by
  cases v with
  | int i => exact ⟨i, rfl⟩
  | _ => cases h
noncomputable def inC (v1 v2 : V) (n : Nat) : Bool := match v1, v2 with
  | .int i, .int j => decide (0 ≤ i) && (decide (i ≤ j) && decide (j ≤ (n : Int)))
  | _, _ => false
noncomputable def ctT : E := .or (.not (.call "is_whole" (.cons (.var 1) .nil))) (.or (.not (.call "is_whole" (.cons (.var 2) .nil))) (.not (.cmp (.int 0) (.more .le (.var 1) (.more .le (.var 2) (.one .le (.var 4)))))))
theorem ev_ctT {v1 v2 v3 : V} {n : Nat} {r : List (Option V)} (h1 : pl v1 = true) (h2 : pl v2 = true) : Ev (C9 ad (d + 1)) ⟨some (bk9 ps) :: some v1 :: some v2 :: some v3 :: some (.int n) :: r, H, H⟩ ctT (.bool (!inC v1 v2 n)) := by
  have hw1 : Ca (C9 ad (d + 1)) "is_whole" [v1] H (.bool (isWh v1)) := ca_whole3 has9 h1
  have hw2 : Ca (C9 ad (d + 1)) "is_whole" [v2] H (.bool (isWh v2)) := ca_whole3 has9 h2
  cases e1 : isWh v1 with
  | false =>
    rw [e1] at hw1
    have : inC v1 v2 n = false := by cases v1 <;> first | rfl | cases e1
    rw [this]
    exact fun _ _ q => hw1 _ _ q
  | true =>
    rw [e1] at hw1
    obtain ⟨i, rfl⟩ := wh_int e1
    cases e2 : isWh v2 with
    | false =>
      rw [e2] at hw2
      have : inC (.int i) v2 n = false := by cases v2 <;> first | rfl | cases e2
      rw [this]
      exact fun _ _ q => hw1 _ _ (hw2 _ _ q)
    | true =>
      rw [e2] at hw2
      obtain ⟨j, rfl⟩ := wh_int e2
      have e := ev_or (C := C9 ad (d + 1)) (st := ⟨some (bk9 ps) :: some (.int i) :: some (.int j) :: some v3 :: some (.int n) :: r, H, H⟩) (p := false) (a := .not (.call "is_whole" (.cons (.var 1) .nil))) (fun _ _ q => hw1 _ _ q) fun _ => ev_or (p := false) (a := .not (.call "is_whole" (.cons (.var 2) .nil))) (fun _ _ q => hw2 _ _ q) fun _ => ev_not (ev_cmp (a := .int 0) ev_int (ec_more (e := .var 1) (fun _ _ q => q) cm_le fun _ => ec_more (e := .var 2) (fun _ _ q => q) cm_le fun _ => ec_one (e := .var 4) (fun _ _ q => q) cm_le))
      exact e
theorem cut_head {v1 v2 : V} {b : Bl} {Q : Fl → St → Prop} {X : String → St → Prop} (h : Ok9 ps) (hb : WB (C9 ad (d + 5)) b ⟨[some (bk9 ps), some v1, some v2, some (.lst (two2 ps.length)), some (.int ((2 * ps.length : Nat) : Int)), none, none, none, none, none, none, none, none], H, H⟩ Q X) :
    WB (C9 ad (d + 5)) (.cons (.assign (.var 3) (.call "lengths" (.cons (.var 0) .nil))) (.cons (.assign (.var 4) (.call "total_of" (.cons (.var 0) (.cons (.var 3) .nil)))) b)) ⟨[some (bk9 ps), some v1, some v2, none, none, none, none, none, none, none, none, none, none], H, H⟩ Q X :=
  w_asg (w := .lst (two2 ps.length)) (fun _ _ q => ca_lens h _ _ q) rfl (w_asg (w := .int ((2 * ps.length : Nat) : Int)) (fun _ _ q => ca_total (d := d + 3) h.2 _ _ q) rfl hb)
theorem cut_bad {v1 v2 : V} (h : Ok9 ps) (h1 : pl v1 = true) (h2 : pl v2 = true) (hv : inC v1 v2 (2 * ps.length) = false) : Cr (C9 ad (d + 6)) "cut" [bk9 ps, v1, v2] H "NoPlace" := cr_of (fn := L09.F_cut) rfl rfl (by decide) fun Q X q => by
  have e := ev_ctT (ad := ad) (d := d + 4) (H := H) (ps := ps) (v3 := .lst (two2 ps.length)) (n := 2 * ps.length) (r := [none, none, none, none, none, none, none, none]) h1 h2
  rw [hv] at e
  exact cut_head h (w_ift e (x_rz ev_str q))
theorem cut_good {i j : Int} (h : Ok9 ps) (hv : inC (.int i) (.int j) (2 * ps.length) = true) : Any (C9 ad (d + 6)) "cut" [bk9 ps, .int i, .int j] H := fun Q X q => by
  have e := ev_ctT (ad := ad) (d := d + 4) (H := H) (ps := ps) (v1 := .int i) (v2 := .int j) (v3 := .lst (two2 ps.length)) (n := 2 * ps.length) (r := [none, none, none, none, none, none, none, none]) rfl rfl
  rw [hv] at e
  have h2 := h.2
  refine call_of (fn := L09.F_cut) rfl rfl (by decide) (cut_head h (w_iff e (kn_nil (w_own0 rfl fun a h1 hB => w_asg (w := .int ((2 * ps.length : Nat) : Int)) (fun _ _ q => q) rfl (w_for (xs := (row9 ps.length).reverse) (ds := []) (fun _ _ q => q) (.inr nofun) ?_)))))
  rw [row9, ← List.map_reverse]
  refine ct_for (d := d + 4) h.2 hB (fun ws b x7 H' hw hp ha => ?_) (List.range ps.length).reverse [] _ none _ (fun k hk => List.mem_range.mp (List.mem_reverse.mp hk)) nofun (by rw [List.length_reverse, List.length_range]; show 0 + _ ≤ 40; omega) upd_eq
  refine w_own0 rfl fun c h3 h4 => w_asg (w := .int 0) (fun _ _ q => q) rfl (w_while (wgt ws + 1) (ct_while (d := d + 4) hB h4 (fun e => ?_) q (wgt ws) ws [] 0 _ _ _ _ (Nat.le_refl _) hw hp ?_ upd_eq))
  · rw [← e, ha] at h3; cases h3
  · rw [upd_ne fun e => by rw [← e, ha] at h3; cases h3]; exact ha
end
end Lib
end

section
set_option autoImplicit false
set_option linter.unusedSimpArgs false
set_option linter.unusedVariables false
namespace Lib
open PySem Mine
/-! law 09: best_pair -/
noncomputable def atS : Sy → At
  | .ch c => .s ⟨#[c]⟩
  | .ru k => .i k
theorem key_sy {x y : Sy} {P : List At → Prop} (h : P [atS x, atS y]) : keyP (.tup [x.v, y.v]) P := by
  cases x <;> cases y <;> exact h
theorem dict_p {H : AH} {a : Nat} {kvs : List (List At × V)} {P : Nat → List (List At × V) → Prop} (ha : H a = some (.dict kvs)) (h : P a kvs) : dictP H (.ref a) P := by
  show (match H a with
    | some (.dict kvs) => P a kvs
    | _ => False)
  rw [ha]; exact h
noncomputable def Adj (row : List Sy) (ks : List At) : Prop := ∃ i x y, row[i]? = some x ∧ row[i + 1]? = some y ∧ ks = [atS x, atS y]
noncomputable def Gdk (row : List Sy) (kvs : List (List At × V)) : Prop := ∀ p ∈ kvs, Adj row p.1 ∧ ∃ n : Int, p.2 = .int n
theorem put_gd {row : List Sy} {k : List At} {n : Int} (hk : Adj row k) : ∀ {kvs : List (List At × V)}, Gdk row kvs → Gdk row (dput k (.int n) kvs)
  | [], _ => fun p hp => by rw [List.mem_singleton.mp hp]; exact ⟨hk, n, rfl⟩
  | (a, w) :: r, h => by
    show Gdk row (if a = k then (a, .int n) :: r else (a, w) :: dput k (.int n) r)
    split
    · intro p hp
      rcases List.mem_cons.mp hp with rfl | hp
      · exact ⟨(h _ (List.mem_cons_self ..)).1, n, rfl⟩
      · exact h p (List.mem_cons_of_mem _ hp)
    · intro p hp
      rcases List.mem_cons.mp hp with rfl | hp
      · exact h _ (List.mem_cons_self ..)
      · exact put_gd hk (fun q hq => h q (List.mem_cons_of_mem _ hq)) p hp
theorem put_len {k : List At} {v : V} : ∀ (kvs : List (List At × V)), (dput k v kvs).length ≤ kvs.length + 1
  | [] => Nat.le_refl 1
  | (a, w) :: r => by
    show (if a = k then (a, v) :: r else (a, w) :: dput k v r).length ≤ r.length + 1 + 1
    split
    · exact Nat.le_succ _
    · exact Nat.succ_le_succ (put_len r)
theorem look_gd {row : List Sy} {k : List At} {v : V} : ∀ {kvs : List (List At × V)}, Gdk row kvs → dlook k kvs = some v → ∃ n : Int, v = .int n
  | [], _, e => by cases e
  | (a, w) :: r, h, e => by
    have e : (if a = k then some w else dlook k r) = some v := e
    split at e
    · cases e; exact (h _ (List.mem_cons_self ..)).2
    · exact look_gd (fun q hq => h q (List.mem_cons_of_mem _ hq)) e
theorem look_mem {row : List Sy} {p : List At × V} : ∀ {kvs : List (List At × V)}, Gdk row kvs → p ∈ kvs → ∃ n : Int, dlook p.1 kvs = some (.int n)
  | (a, w) :: r, h, hp => by
    show ∃ n : Int, (if a = p.1 then some w else dlook p.1 r) = some (.int n)
    split
    · obtain ⟨_, n, e⟩ := h _ (List.mem_cons_self ..)
      exact ⟨n, by rw [← e]⟩
    · rename_i hne
      rcases List.mem_cons.mp hp with rfl | hp
      · exact absurd rfl hne
      · exact look_mem (fun q hq => h q (List.mem_cons_of_mem _ hq)) hp
section
variable {ad d : Nat} {H : AH} {row : List Sy}
theorem sb_sy {k : Nat} {x : Sy} (h : row[k]? = some x) : Sb H (.lst (row.map Sy.v)) (.int k) x.v := sb_lst (by rw [List.getElem?_map, h]; rfl)
theorem sb_key {a : Nat} {kvs : List (List At × V)} {x y : Sy} {v : V} (ha : H a = some (.dict kvs)) (h : dlook [atS x, atS y] kvs = some v) : Sb H (.ref a) (.tup [x.v, y.v]) v := fun Q q => by
  show (match H a with
    | some (.dict kvs) => keyP (.tup [x.v, y.v]) fun ks => (match dlook ks kvs with
      | some v => Q v
      | none => False)
    | some (.list vs) => _
    | _ => False)
  rw [ha]
  refine key_sy ?_
  rw [h]; exact q
theorem cm_key {a : Nat} {kvs : List (List At × V)} {x y : Sy} (ha : H a = some (.dict kvs)) : Cm H .notin (.tup [x.v, y.v]) (.ref a) (!(dlook [atS x, atS y] kvs).isSome) := fun Q q => show dictP H (.ref a) (fun _ kvs => keyP (.tup [x.v, y.v]) fun ks => Q (!(dlook ks kvs).isSome)) from dict_p ha (key_sy q)
theorem ev_getk {C : Cx} {ρ : List (Option V)} {B : AH} {i j a : Nat} {kvs : List (List At × V)} {x y : Sy} {w : V} (hi : ρ[i]? = some (some (.ref a))) (hj : ρ[j]? = some (some (.tup [x.v, y.v]))) (ha : H a = some (.dict kvs)) (hw : (dlook [atS x, atS y] kvs).getD (.int 0) = w) : Ev C ⟨ρ, H, B⟩ (.get (.var i) (.var j) (.int 0)) w := fun Q X q => ev_var (C := C) (H := H) (B := B) hi _ X (show dictP H (.ref a) (fun _ kvs => WE C (.var j) ⟨ρ, H, B⟩ (fun kk => keyP kk fun ks => Q ((dlook ks kvs).getD (.int 0))) X) from dict_p ha (ev_var (C := C) (H := H) (B := B) hj _ X (key_sy (by rw [hw]; exact q))))
theorem w_setk {C : Cx} {ρ : List (Option V)} {B : AH} {Q : Fl → St → Prop} {X : String → St → Prop} {b : Bl} {e : E} {i j a : Nat} {kvs : List (List At × V)} {x y : Sy} {w : V} (hv : Ev C ⟨ρ, H, B⟩ e w) (hi : ρ[i]? = some (some (.ref a))) (hj : ρ[j]? = some (some (.tup [x.v, y.v]))) (ha : H a = some (.dict kvs)) (hB : B a = none) (hl : kvs.length < sizeLine)
    (hb : WB C b ⟨ρ, H.upd a (.dict (dput [atS x, atS y] w kvs)), B⟩ Q X) : WB C (.cons (.setkey (.var i) (.var j) e) b) ⟨ρ, H, B⟩ Q X :=
  hv _ _ (ev_var (C := C) (H := H) (B := B) hi _ (fun x => X x ⟨ρ, H, B⟩) (ev_var (C := C) (H := H) (B := B) hj _ (fun x => X x ⟨ρ, H, B⟩) (show dictP H (.ref a) (fun ad kvs => keyP (.tup [x.v, y.v]) fun ks => B ad = none ∧ kvs.length < sizeLine ∧ WB C b ⟨ρ, H.upd ad (.dict (dput ks w kvs)), B⟩ Q X) from dict_p ha (key_sy ⟨hB, hl, hb⟩))))
noncomputable def bpB : Bl := (.cons (.assign (.var 5) (.tup (.cons (.sub (.var 0) (.var 3)) (.cons (.sub (.var 0) (.bin .add (.var 3) (.int 1))) .nil))))
    (.cons (.ite (.or (.cmp (.var 5) (.one .notin (.var 2))) (.cmp (.sub (.var 2) (.var 5)) (.one .ne (.bin .sub (.var 3) (.int 1))))) (.cons (.setkey (.var 1) (.var 5) (.bin .add (.get (.var 1) (.var 5) (.int 0)) (.int 1)))
      (.cons (.setkey (.var 2) (.var 5) (.var 3))
      .nil)) .nil)
    .nil))
theorem bp_loop {Q : Fl → St → Prop} {X : String → St → Prop} {r : Bl} {a b : Nat} (hl : row.length ≤ 1000) (ha0 : H a = none) (hb0 : H b = none) (hab : a ≠ b)
    (hr : ∀ kc x3 x5 H', Gdk row kc → H' a = some (.dict kc) → WB (C9 ad d) r ⟨[some (.lst (row.map Sy.v)), some (.ref a), some (.ref b), x3, none, x5], H', H⟩ Q X) :
    ∀ (m k : Nat) (kc kl : List (List At × V)) (x3 x5 : Option V) (H' : AH), k + m + 1 = row.length → Gdk row kc → Gdk row kl → kc.length ≤ k → kl.length ≤ k → H' a = some (.dict kc) → H' b = some (.dict kl) →
    Fo (C9 ad d) (.var 3) bpB r Q X (upL k ((row.length : Int) - 1)) ⟨[some (.lst (row.map Sy.v)), some (.ref a), some (.ref b), x3, none, x5], H', H⟩
  | 0, k, kc, kl, x3, x5, H', e, gc, gl, lc, ll, ha, hb => by
    rw [upL_nil (by omega)]
    exact fo_nil (hr kc x3 x5 H' gc ha)
  | m + 1, k, kc, kl, x3, x5, H', e, gc, gl, lc, ll, ha, hb => by
    rw [upL_cons (by omega)]
    obtain ⟨x, hx⟩ : ∃ x, row[k]? = some x := ⟨_, List.getElem?_eq_getElem (by omega)⟩
    obtain ⟨y, hy⟩ : ∃ y, row[k + 1]? = some y := ⟨_, List.getElem?_eq_getElem (by omega)⟩
    have hadj : Adj row [atS x, atS y] := ⟨k, x, y, hx, hy, rfl⟩
    have hz : ∀ n, n ≤ 1000 → n < sizeLine := fun n h => Nat.lt_of_le_of_lt h (by decide)
    refine fo_cons (ρ' := [some (.lst (row.map Sy.v)), some (.ref a), some (.ref b), some (.int k), none, x5]) rfl (w_asg (w := .tup [x.v, y.v]) (fun _ _ q => sb_sy (H := H') hx _ (sb_sy (H := H') hy _ ⟨le2, q⟩)) rfl ?_)
    have test : ∃ t : Bool, Ev (C9 ad d) ⟨[some (.lst (row.map Sy.v)), some (.ref a), some (.ref b), some (.int k), none, some (.tup [x.v, y.v])], H', H⟩ (.or (.cmp (.var 5) (.one .notin (.var 2))) (.cmp (.sub (.var 2) (.var 5)) (.one .ne (.bin .sub (.var 3) (.int 1))))) (.bool t) := by
      have e1 : Ev (C9 ad d) ⟨[some (.lst (row.map Sy.v)), some (.ref a), some (.ref b), some (.int k), none, some (.tup [x.v, y.v])], H', H⟩ (.cmp (.var 5) (.one .notin (.var 2))) (.bool !(dlook [atS x, atS y] kl).isSome) := ev_cmp (ev_var rfl) (ec_one (ev_var rfl) (cm_key hb))
      cases hd : dlook [atS x, atS y] kl with
      | none =>
        rw [hd] at e1
        exact ⟨true, ev_or (q := true) e1 fun e => by cases e⟩
      | some v =>
        rw [hd] at e1
        obtain ⟨n, rfl⟩ := look_gd gl hd
        exact ⟨_, ev_or e1 fun _ => ev_cmp (ev_sub (ev_var rfl) (ev_var rfl) (sb_key hb hd)) (ec_one (e := .bin .sub (.var 3) (.int 1)) (fun _ _ q => q) cm_ne)⟩
    obtain ⟨t, et⟩ := test
    refine w_if t et (fun _ => ?_) fun _ => kn_nil (kf_nil (bp_loop hl ha0 hb0 hab hr m (k + 1) kc kl _ _ H' (by omega) gc gl (by omega) (by omega) ha hb))
    obtain ⟨n, hn⟩ : ∃ n : Int, (dlook [atS x, atS y] kc).getD (.int 0) = .int n := by
      cases hd : dlook [atS x, atS y] kc with
      | none => exact ⟨0, rfl⟩
      | some v => obtain ⟨n, rfl⟩ := look_gd gc hd; exact ⟨n, rfl⟩
    have lc' := put_len (k := [atS x, atS y]) (v := .int (n + 1)) kc
    have ll' := put_len (k := [atS x, atS y]) (v := .int k) kl
    exact w_setk (ev_add (ev_getk rfl rfl ha hn) ev_int) rfl rfl ha ha0 (hz _ (by omega)) (w_setk (w := .int k) (ev_var rfl) rfl rfl (kvs := kl) (by rw [upd_ne (Ne.symm hab)]; exact hb) hb0 (hz _ (by omega)) (kn_nil (kf_nil (bp_loop hl ha0 hb0 hab hr m (k + 1) _ _ _ _ _ (by omega) (put_gd (n := n + 1) hadj gc) (put_gd (n := k) hadj gl) (by omega) (by omega) (by rw [upd_ne hab, upd_eq]) upd_eq))))
/-- best, and the keys yet to come -/
noncomputable def bqB : Bl := .cons (.ite (.and (.cmp (.sub (.var 1) (.var 5)) (.one .gt (.int 1))) (.or (.cmp (.var 4) (.one .is .none)) (.cmp (.sub (.var 1) (.var 5)) (.one .gt (.sub (.var 1) (.var 4)))))) (.cons (.assign (.var 4) (.var 5)) .nil) .nil) .nil
/-- none, or a pair that stands in the row -/
noncomputable def IsPr (row : List Sy) (kc : List (List At × V)) (w : V) : Prop := w = .none ∨ ∃ x y n, w = .tup [x.v, y.v] ∧ (∃ i, row[i]? = some x ∧ row[i + 1]? = some y) ∧ dlook [atS x, atS y] kc = some (.int n)
theorem bq_loop {Q : V → Prop} {X : String → St → Prop} {a : Nat} {v2 : V} {kc : List (List At × V)} {H' : AH} (gc : Gdk row kc) (ha : H' a = some (.dict kc)) (q : ∀ w, IsPr row kc w → Q w) :
    ∀ (l : List (List At × V)) (w : V) (x3 x5 : Option V), (∀ p ∈ l, p ∈ kc) → IsPr row kc w →
    Fo (C9 ad d) (.var 5) bqB (.cons (.ret (.var 4)) .nil) (PK H Q) X (l.map fun p => keyV p.1) ⟨[some (.lst (row.map Sy.v)), some (.ref a), some v2, x3, some w, x5], H', H⟩
  | [], w, x3, x5, _, hw => fo_nil (w_ret (ev_var rfl) (pk_of (w := w) (by
      rcases hw with rfl | ⟨x, y, n, rfl, _⟩
      · rfl
      · cases x <;> cases y <;> rfl) (q w hw)))
  | p :: l, w, x3, x5, hl, hw => by
    obtain ⟨n, hn⟩ := look_mem gc (hl p (List.mem_cons_self ..))
    obtain ⟨⟨i, x, y, hx, hy, e⟩, _⟩ := gc p (hl p (List.mem_cons_self ..))
    rw [e] at hn
    have ek : keyV p.1 = .tup [x.v, y.v] := by rw [e]; cases x <;> cases y <;> rfl
    rw [List.map_cons, ek]
    have hw2 : IsPr row kc (.tup [x.v, y.v]) := .inr ⟨x, y, n, rfl, ⟨i, hx, hy⟩, hn⟩
    have s5 : Ev (C9 ad d) ⟨[some (.lst (row.map Sy.v)), some (.ref a), some v2, x3, some w, some (.tup [x.v, y.v])], H', H⟩ (.sub (.var 1) (.var 5)) (.int n) := ev_sub (ev_var rfl) (ev_var rfl) (sb_key ha hn)
    have test : ∃ t : Bool, Ev (C9 ad d) ⟨[some (.lst (row.map Sy.v)), some (.ref a), some v2, x3, some w, some (.tup [x.v, y.v])], H', H⟩ (.or (.cmp (.var 4) (.one .is .none)) (.cmp (.sub (.var 1) (.var 5)) (.one .gt (.sub (.var 1) (.var 4))))) (.bool t) := by
      rcases hw with rfl | ⟨x', y', n', rfl, _, hn'⟩
      · exact ⟨true, fun _ _ q => q⟩
      · exact ⟨_, ev_or (p := false) (a := .cmp (.var 4) (.one .is .none)) (fun _ _ q => q) fun _ => ev_cmp s5 (ec_one (ev_sub (ev_var rfl) (ev_var rfl) (sb_key ha hn')) cm_gt)⟩
    obtain ⟨t, et⟩ := test
    exact fo_cons (ρ' := [some (.lst (row.map Sy.v)), some (.ref a), some v2, x3, some w, some (.tup [x.v, y.v])]) rfl (w_if _ (ev_and (ev_cmp s5 (ec_one ev_int cm_gt)) fun _ => et) (fun _ => w_asg (w := .tup [x.v, y.v]) (ev_var rfl) rfl (kn_nil (kf_nil (bq_loop gc ha q l _ _ _ (fun u hu => hl u (List.mem_cons_of_mem _ hu)) hw2)))) fun _ => kn_nil (kf_nil (bq_loop gc ha q l w _ _ (fun u hu => hl u (List.mem_cons_of_mem _ hu)) hw)))
theorem w_dict {C : Cx} {ρ : List (Option V)} {B : AH} {Q : Fl → St → Prop} {X : String → St → Prop} {b : Bl} {i : Nat} (hi : Nat.blt i ρ.length = true) (hb : ∀ a, H a = none → B a = none → WB C b ⟨ρ.set i (some (.ref a)), H.upd a (.dict []), B⟩ Q X) : WB C (.cons (.own i .dict) b) ⟨ρ, H, B⟩ Q X := fun a h => by
  show (match (match putV i (.ref a) ρ with
    | some ρ' => _
    | none => False) with
    | p => p)
  unfold putV; rw [if_pos (Nat.blt_eq.mp hi)]; exact hb a h.1 h.2
theorem ei_keys {C : Cx} {ρ : List (Option V)} {B : AH} {i a : Nat} {kc : List (List At × V)} (hi : ρ[i]? = some (some (.ref a))) (ha : H a = some (.dict kc)) : Ei C ⟨ρ, H, B⟩ (.keys (.var i)) (kc.map fun p => keyV p.1) [a] := fun Q X q => ev_var (C := C) (H := H) (B := B) hi _ X (show dictP H (.ref a) (fun a kvs => Q (kvs.map fun p => keyV p.1) [a]) from dict_p ha q)
theorem best_of {Q : V → Prop} {X : String → Prop} (hl : row.length ≤ 1000) (q0 : Q .none) (q1 : ∀ i x y, row[i]? = some x → row[i + 1]? = some y → Q (.tup [x.v, y.v])) : (C9 ad (d + 1)).call "best_pair" [.lst (row.map Sy.v)] H Q X := by
  refine call_of (fn := L09.F_best_pair) rfl rfl (by decide) (w_dict rfl fun a h1 h2 => w_dict rfl fun b h3 h4 => w_for (xs := upL 0 ((row.length : Int) - 1)) (ds := []) (ei_range1 (ev_sb (ev_len (n := row.length) (ev_var rfl) (by show some _ = _; rw [List.length_map])) ev_int) ⟨by omega, by omega⟩) (.inr nofun) ?_)
  have hab : a ≠ b := Ne.symm (of_upd (o' := .list []) h3)
  have fin : ∀ kc x3 x5 H', Gdk row kc → H' a = some (.dict kc) → WB (C9 ad d) (.cons (.assign (.var 4) .none) (.cons (.for (.var 5) (.keys (.var 1)) bqB) (.cons (.ret (.var 4)) .nil))) ⟨[some (.lst (row.map Sy.v)), some (.ref a), some (.ref b), x3, none, x5], H', H⟩ (PK H Q) (fun x _ => X x) := fun kc x3 x5 H' gc ha => w_asg (w := .none) ev_none rfl (w_for (ei_keys rfl ha) (.inl rfl) (bq_loop gc ha (fun w hw => by
    rcases hw with rfl | ⟨x, y, n, rfl, ⟨i, hx, hy⟩, _⟩
    · exact q0
    · exact q1 i x y hx hy) kc .none _ _ (fun _ h => h) (.inl rfl)))
  have ha0 : ((H.upd a (.dict [])).upd b (.dict [])) a = some (.dict []) := by rw [upd_ne hab, upd_eq]
  by_cases h0 : row.length = 0
  · rw [upL_nil (by omega)]
    exact fo_nil (fin [] _ _ _ nofun ha0)
  · exact bp_loop hl h2 h4 hab fin (row.length - 1) 0 [] [] _ _ _ (by omega) nofun nofun (Nat.le_refl _) (Nat.le_refl _) ha0 upd_eq
end
end Lib
end

section
set_option autoImplicit false
set_option linter.unusedSimpArgs false
set_option linter.unusedVariables false
namespace Lib
open PySem Mine
/-! law 09: replaced, made -/
theorem cm_sy {H : AH} (x y : Sy) : ∃ t, Cm H .eq x.v y.v t ∧ (x = y → t = true) := by
  cases x with
  | ch c =>
    cases y with
    | ch c' => exact ⟨decide ((⟨#[c]⟩ : Str) = ⟨#[c']⟩), fun Q q => (show eqV H (.str _) (.str _) Q from by rw [eqV_str]; exact q), fun e => by cases e; exact decide_eq_true rfl⟩
    | ru k => exact ⟨false, fun Q q => ⟨Nat.le_of_ble_eq_true rfl, q⟩, nofun⟩
  | ru k =>
    cases y with
    | ch c' => exact ⟨false, fun Q q => ⟨Nat.le_of_ble_eq_true rfl, q⟩, nofun⟩
    | ru k' => exact ⟨decide ((k : Int) = k'), cm_eq, fun e => by cases e; exact decide_eq_true rfl⟩
theorem fz_sy {H H' : AH} {n : Nat} (x : Sy) : frz H' H (n + 1) x.v = some x.v := by cases x <;> rfl
theorem w_asgc {C : Cx} {ρ : List (Option V)} {H B : AH} {Q : Fl → St → Prop} {X : String → St → Prop} {b : Bl} {i : Nat} {f : String} {es : Es} {vs : List V} {P : V → Prop} (he : Evs C ⟨ρ, H, B⟩ es vs) (hi : Nat.blt i ρ.length = true) (hc : ∀ (Q' : V → Prop) (X' : String → Prop), (∀ w, P w → Q' w) → C.call f vs H Q' X')
    (h1 : ∀ w, P w → WB C b ⟨ρ.set i (some w), H, B⟩ Q X) : WB C (.cons (.assign (.var i) (.call f es)) b) ⟨ρ, H, B⟩ Q X := he _ _ (hc _ _ (fun w hw => by
  show (match (match putV i w ρ with
    | some ρ' => _
    | none => False) with
    | p => p)
  unfold putV; rw [if_pos (Nat.blt_eq.mp hi)]; exact h1 w hw))
section
variable {ad d : Nat} {H : AH} {row : List Sy} {x y : Sy}
noncomputable def rpT : E := .and (.cmp (.bin .add (.var 4) (.int 1)) (.one .lt (.len (.var 0)))) (.and (.cmp (.sub (.var 0) (.var 4)) (.one .eq (.sub (.var 1) (.int 0)))) (.cmp (.sub (.var 0) (.bin .add (.var 4) (.int 1))) (.one .eq (.sub (.var 1) (.int 1)))))
noncomputable def rpB : Bl := .cons (.ite rpT (.cons (.append (.var 3) (.pure (.var 2))) (.cons (.assign (.var 4) (.bin .add (.var 4) (.int 2))) .nil)) (.cons (.append (.var 3) (.pure (.sub (.var 0) (.var 4)))) (.cons (.assign (.var 4) (.bin .add (.var 4) (.int 1))) .nil))) .nil
theorem ev_lenS {C : Cx} {ρ : List (Option V)} {H B : AH} {i : Nat} (h : ρ[i]? = some (some (.lst (row.map Sy.v)))) : Ev C ⟨ρ, H, B⟩ (.len (.var i)) (.int row.length) := ev_len (ev_var h) (by show some _ = _; rw [List.length_map])
theorem rp_test {n k a : Nat} {H' : AH} (hk : k < row.length) : ∃ t, Ev (C9 ad d) ⟨[some (.lst (row.map Sy.v)), some (.tup [x.v, y.v]), some (.int n), some (.ref a), some (.int k)], H', H⟩ rpT (.bool t) ∧ (t = true → k + 1 < row.length) ∧ (row[k]? = some x → row[k + 1]? = some y → t = true) := by
  have hz : row[k]? = some row[k] := List.getElem?_eq_getElem hk
  obtain ⟨t1, c1, e1⟩ := cm_sy (H := H') row[k] x
  have ev1 : Ev (C9 ad d) ⟨[some (.lst (row.map Sy.v)), some (.tup [x.v, y.v]), some (.int n), some (.ref a), some (.int k)], H', H⟩ (.cmp (.bin .add (.var 4) (.int 1)) (.one .lt (.len (.var 0)))) (.bool (decide ((k : Int) + 1 < row.length))) := ev_cmp (a := .bin .add (.var 4) (.int 1)) (fun _ _ q => q) (ec_one (ev_lenS rfl) cm_lt)
  by_cases h2 : k + 1 < row.length
  · have hz2 : row[k + 1]? = some row[k + 1] := List.getElem?_eq_getElem h2
    obtain ⟨t2, c2, e2⟩ := cm_sy (H := H') row[k + 1] y
    refine ⟨_, ev_and ev1 fun _ => ev_and (ev_cmp (ev_sub (ev_var rfl) (ev_var rfl) (sb_sy hz)) (ec_one (e := .sub (.var 1) (.int 0)) (fun _ _ q => q) c1)) fun _ => ev_cmp (ev_sub (i := .bin .add (.var 4) (.int 1)) (ev_var rfl) (k := .int ((k + 1 : Nat) : Int)) (fun _ _ q => q) (sb_sy hz2)) (ec_one (e := .sub (.var 1) (.int 1)) (fun _ _ q => q) c2), fun _ => h2, fun q1 q2 => ?_⟩
    rw [hz] at q1; rw [hz2] at q2
    cases q1; cases q2
    rw [e1 rfl, e2 rfl, decide_eq_true (by omega)]; rfl
  · rw [decide_eq_false (by omega)] at ev1
    exact ⟨_, ev_and (q := true) ev1 nofun, nofun, fun _ q => by rw [List.getElem?_eq_none (by omega)] at q; cases q⟩
theorem rp_loop {Q : V → Prop} {X : String → St → Prop} {n a i : Nat} (hB : H a = none) (hl : row.length ≤ 1000) (hx : row[i]? = some x) (hy : row[i + 1]? = some y) (q : ∀ out : List Sy, out.length < row.length → Q (.lst (out.map Sy.v))) :
    ∀ (m k : Nat) (out : List Sy) (H' : AH), k ≤ row.length → row.length ≤ k + m → (out.length < k ∨ (out.length ≤ k ∧ k ≤ i)) → H' a = some (.list (out.map Sy.v)) →
    Wh (C9 ad d) (.cmp (.var 4) (.one .lt (.len (.var 0)))) rpB (.cons (.ret (.var 3)) .nil) (PK H Q) X (m + 1) ⟨[some (.lst (row.map Sy.v)), some (.tup [x.v, y.v]), some (.int n), some (.ref a), some (.int k)], H', H⟩ := by
  have hi : i + 1 < row.length := (List.getElem?_eq_some_iff.mp hy).1
  have fin : ∀ (m : Nat) (out : List Sy) (H' : AH), out.length < row.length → H' a = some (.list (out.map Sy.v)) → Wh (C9 ad d) (.cmp (.var 4) (.one .lt (.len (.var 0)))) rpB (.cons (.ret (.var 3)) .nil) (PK H Q) X (m + 1) ⟨[some (.lst (row.map Sy.v)), some (.tup [x.v, y.v]), some (.int n), some (.ref a), some (.int row.length)], H', H⟩ := fun m out H' ho ha => by
    have e := ev_cmp (C := C9 ad d) (ev_var (ρ := [some (.lst (row.map Sy.v)), some (.tup [x.v, y.v]), some (.int n), some (.ref a), some (.int row.length)]) (H := H') (B := H) (i := 4) rfl) (ec_one (ev_lenS (i := 0) rfl) cm_lt)
    rw [decide_eq_false (Int.lt_irrefl _)] at e
    exact wh_end e (w_ret (ev_var rfl) (pk_of (frz_ref hB ha fun v hv => by obtain ⟨s, _, rfl⟩ := List.mem_map.mp hv; exact fz_sy s) (q out ho)))
  intro m
  induction m with
  | zero =>
    intro k out H' h1 h2 h3 ha
    obtain rfl : k = row.length := by omega
    exact fin 0 out H' (by omega) ha
  | succ m ih =>
    intro k out H' h1 h2 h3 ha
    by_cases hk : k < row.length
    · have e := ev_cmp (C := C9 ad d) (ev_var (ρ := [some (.lst (row.map Sy.v)), some (.tup [x.v, y.v]), some (.int n), some (.ref a), some (.int k)]) (H := H') (B := H) (i := 4) rfl) (ec_one (ev_lenS (i := 0) rfl) cm_lt)
      rw [decide_eq_true (by omega)] at e
      have hz : out.length < sizeLine := Nat.lt_of_le_of_lt (show out.length ≤ 1000 by omega) (by decide)
      obtain ⟨t, et, t1, t2⟩ := rp_test (ad := ad) (d := d) (H := H) (x := x) (y := y) (n := n) (a := a) (H' := H') hk
      refine wh_step e (w_if t et (fun ht => ?_) fun ht => ?_)
      · have := t1 ht
        exact w_app (w := (Sy.ru n).v) rfl ha hB (ev_var rfl) (by rw [List.length_map]; exact hz) (w_asg (w := .int ((k + 2 : Nat) : Int)) (fun _ _ q => q) rfl (kn_nil (kw_nil (ih (k + 2) (out ++ [.ru n]) _ (by omega) (by omega) (.inl (by rw [List.length_append]; show out.length + 1 < _; omega)) (by rw [upd_eq, List.map_append]; rfl)))))
      · refine w_app (w := row[k].v) rfl ha hB (ev_sub (ev_var rfl) (ev_var rfl) (sb_sy (List.getElem?_eq_getElem hk))) (by rw [List.length_map]; exact hz) (w_asg (w := .int ((k + 1 : Nat) : Int)) (fun _ _ q => q) rfl (kn_nil (kw_nil (ih (k + 1) (out ++ [row[k]]) _ hk (by omega) ?_ (by rw [upd_eq, List.map_append]; rfl)))))
        rw [List.length_append]
        show out.length + 1 < k + 1 ∨ (out.length + 1 ≤ k + 1 ∧ k + 1 ≤ i)
        have hki : k ≠ i := fun e => by rw [e] at t2; rw [t2 hx hy] at ht; cases ht
        omega
    · obtain rfl : k = row.length := by omega
      exact fin (m + 1) out H' (by omega) ha
noncomputable def isRow (n : Nat) (w : V) : Prop := ∃ out : List Sy, out.length < n ∧ w = .lst (out.map Sy.v)
theorem repl_of {i n : Nat} (hl : row.length ≤ 1000) (hx : row[i]? = some x) (hy : row[i + 1]? = some y) (Q : V → Prop) (X : String → Prop) (q : ∀ w, isRow row.length w → Q w) : (C9 ad (d + 1)).call "replaced" [.lst (row.map Sy.v), .tup [x.v, y.v], .int n] H Q X :=
  call_of (fn := L09.F_replaced) rfl rfl (by decide) (w_own0 rfl fun a h1 h2 => w_asg (w := .int 0) ev_int rfl (w_while (row.length + 1) (rp_loop h2 hl hx hy (fun out ho => q _ ⟨out, ho, rfl⟩) row.length 0 [] _ (Nat.zero_le _) (by omega) (.inr ⟨Nat.le_refl _, Nat.zero_le _⟩) upd_eq)))
/-! made -/
noncomputable def mdB : Bl := .cons (.assign (.var 2) (.call "replaced" (.cons (.var 2) (.cons (.var 3) (.cons (.len (.var 1)) .nil))))) (.cons (.append (.var 1) (.pure (.var 3))) (.cons (.assign (.var 3) (.call "best_pair" (.cons (.var 2) .nil))) .nil))
noncomputable def isPw (row : List Sy) (w : V) : Prop := w = .none ∨ ∃ i x y, row[i]? = some x ∧ row[i + 1]? = some y ∧ w = .tup [x.v, y.v]
theorem bp_P (hl : row.length ≤ 1000) (Q : V → Prop) (X : String → Prop) (q : ∀ w, isPw row w → Q w) : (C9 ad (d + 1)).call "best_pair" [.lst (row.map Sy.v)] H Q X := best_of hl (q _ (.inl rfl)) fun i x y h1 h2 => q _ (.inr ⟨i, x, y, h1, h2, rfl⟩)
theorem md_loop {Q : V → Prop} {X : String → St → Prop} {a : Nat} {v0 : V} (hB : H a = none) (q : ∀ w, Fz w → Q w) : ∀ (m : Nat) (row : List Sy) (rl : List V) (w : V) (x4 : Option V) (H' : AH), row.length ≤ m → rl.length + row.length ≤ 1000 → (∀ v ∈ rl, ∀ (H₁ H₂ : AH) (n : Nat), frz H₁ H₂ (n + 2) v = some v) → isPw row w → H' a = some (.list rl) →
    Wh (C9 ad (d + 1)) (.cmp (.var 3) (.one .isnot .none)) mdB (.cons (.ret (.tup (.cons (.var 1) (.cons (.var 2) .nil)))) .nil) (PK H Q) X (m + 1) ⟨[some v0, some (.ref a), some (.lst (row.map Sy.v)), some w, x4], H', H⟩ := by
  intro m
  induction m with
  | zero =>
    intro row rl w x4 H' hm hl hr hw ha
    rcases hw with rfl | ⟨i, x, y, hx, hy, rfl⟩
    · exact wh_end (fun _ _ q => q) (w_ret (ev_tup (evs_cons (ev_var rfl) (evs_cons (ev_var rfl) evs_nil)) rfl) (pk_of (frz_two (frz_ref hB ha fun v hv => hr v hv _ _ 4) (frz_lst fun v hv => by obtain ⟨s, _, rfl⟩ := List.mem_map.mp hv; exact fz_sy s)) (q _ fun _ _ => frz_two (frz_lst fun v hv => hr v hv _ _ 4) (frz_lst fun v hv => by obtain ⟨s, _, rfl⟩ := List.mem_map.mp hv; exact fz_sy s))))
    · have := (List.getElem?_eq_some_iff.mp hx).1; omega
  | succ m ih =>
    intro row rl w x4 H' hm hl hr hw ha
    rcases hw with rfl | ⟨i, x, y, hx, hy, rfl⟩
    · exact wh_end (fun _ _ q => q) (w_ret (ev_tup (evs_cons (ev_var rfl) (evs_cons (ev_var rfl) evs_nil)) rfl) (pk_of (frz_two (frz_ref hB ha fun v hv => hr v hv _ _ 4) (frz_lst fun v hv => by obtain ⟨s, _, rfl⟩ := List.mem_map.mp hv; exact fz_sy s)) (q _ fun _ _ => frz_two (frz_lst fun v hv => hr v hv _ _ 4) (frz_lst fun v hv => by obtain ⟨s, _, rfl⟩ := List.mem_map.mp hv; exact fz_sy s))))
    · refine wh_step (fun _ _ q => q) (w_asgc (P := isRow row.length) (evs_cons (ev_var rfl) (evs_cons (ev_var rfl) (evs_cons (ev_len (ev_var rfl) (size_ref ha)) evs_nil))) rfl (fun Q' X' k => repl_of (by omega) hx hy Q' X' k) ?_)
      rintro w ⟨out, ho, rfl⟩
      refine w_app (w := .tup [x.v, y.v]) rfl ha hB (ev_var rfl) (Nat.lt_of_le_of_lt (show rl.length ≤ 1000 by omega) (by decide)) (w_asgc (P := isPw out) (evs_cons (ev_var rfl) evs_nil) rfl (fun Q' X' k => bp_P (by omega) Q' X' k) fun w hw => kw_nil (ih out _ w _ _ (by omega) (by rw [List.length_append]; show rl.length + 1 + _ ≤ _; omega) (fun v hv H₁ H₂ n => ?_) hw upd_eq))
      rcases List.mem_append.mp hv with hv | hv
      · exact hr v hv H₁ H₂ n
      · rw [List.mem_singleton.mp hv]; exact frz_two (fz_sy x) (fz_sy y)
noncomputable def mdT : E := .or (.not (.call "is_text" (.cons (.var 0) .nil))) (.cmp (.len (.var 0)) (.one .gt (.glob "MOST_SIGNS")))
theorem made_bad {v : V} (hp : pl v = true) (h : isTx v = false ∨ ∃ l : List Nat, v = lst l ∧ isTx v = true ∧ 1000 < l.length) : Cr (C9 ad (d + 2)) "made" [v] H "NoText" := cr_of (fn := L09.F_made) rfl rfl (by decide) fun Q X q => by
  have ht : Ca (C9 ad (d + 1)) "is_text" [v] H (.bool (isTx v)) := ca_text3 has9 hp
  rcases h with h | ⟨l, rfl, h, hl⟩
  · rw [h] at ht
    exact w_ift (t := mdT) (fun _ _ q => ht _ _ q) (x_rz ev_str q)
  · rw [h] at ht
    have e := ev_or (C := C9 ad (d + 1)) (st := ⟨[some (lst l), none, none, none, none], H, H⟩) (p := false) (a := .not (.call "is_text" (.cons (.var 0) .nil))) (fun _ _ q => ht _ _ q) fun _ => ev_cmp (ev_len (n := l.length) (ev_var (i := 0) rfl) (by show some _ = _; simp [Str.length])) (ec_one (ev_glob (x := "MOST_SIGNS") (v := .int 1000) rfl) cm_gt)
    rw [decide_eq_true (by omega)] at e
    exact w_ift e (x_rz ev_str q)
theorem made_good {l : List Nat} (h : isTx (lst l) = true) (hl : l.length ≤ 1000) : Any (C9 ad (d + 2)) "made" [lst l] H := fun Q X q => by
  have ht : Ca (C9 ad (d + 1)) "is_text" [lst l] H (.bool (isTx (lst l))) := ca_text3 has9 rfl
  rw [h] at ht
  have e := ev_or (C := C9 ad (d + 1)) (st := ⟨[some (lst l), none, none, none, none], H, H⟩) (p := false) (a := .not (.call "is_text" (.cons (.var 0) .nil))) (fun _ _ q => ht _ _ q) fun _ => ev_cmp (ev_len (n := l.length) (ev_var (i := 0) rfl) (by show some _ = _; simp [Str.length])) (ec_one (ev_glob (x := "MOST_SIGNS") (v := .int 1000) rfl) cm_gt)
  rw [decide_eq_false (by omega)] at e
  have hz : l.length ≤ sizeLine := Nat.le_trans hl (by decide)
  refine call_of (fn := L09.F_made) rfl rfl (by decide) (w_iff e (kn_nil (w_own0 rfl fun a h1 h2 => ?_)))
  have ec := ev_comp (C := C9 ad (d + 1)) (ρ := [some (lst l), some (.ref a), none, none, none]) (H := H.upd a (.list [])) (B := H) (elt := .var 4) (i := 4) (it := .seq (.var 0)) (v := fun c => V.str ⟨#[c]⟩) (g := fun c => (Sy.ch c).v) (r := l) (ds := []) (fun _ _ q => q) hz (show 4 < 5 by omega) fun c _ => fun _ _ q => q
  rw [show l.map (fun c => (Sy.ch c).v) = (l.map Sy.ch).map Sy.v from by rw [List.map_map]; rfl] at ec
  refine w_asg ec rfl ?_
  refine w_asgc (P := isPw (l.map Sy.ch)) (evs_cons (ev_var rfl) evs_nil) rfl (fun Q' X' k => bp_P (by rw [List.length_map]; exact hl) Q' X' k) fun w hw => w_while (l.length + 1) (md_loop h2 q l.length _ [] w _ _ (by rw [List.length_map]; exact Nat.le_refl _) (by rw [List.length_map]; show 0 + _ ≤ _; omega) nofun hw upd_eq)
end
end Lib
end

section
set_option autoImplicit false
set_option linter.unusedSimpArgs false
set_option linter.unusedVariables false
namespace Lib
open PySem Mine
/-! law 09: pieces -/
noncomputable def pn : List String := ["size", "head", "tail", "times", "first"]
noncomputable def pcL (sz : Int) (h t : List Nat) (tm : Int) (fi : V) : List V := [.int sz, lst h, lst t, .int tm, fi]
noncomputable def isFi (v : V) : Prop := v = .none ∨ ∃ i : Int, v = .int i
inductive isPc (ad : Nat) : V → Prop
  | mk (sz : Int) (h t : List Nat) (tm : Int) (fi : V) : h.length ≤ 200 → t.length ≤ 200 → isFi fi → isPc ad (.inst ad pn (pcL sz h t tm fi))
theorem fz_fi {H H' : AH} {n : Nat} {v : V} (h : isFi v) : frz H' H (n + 1) v = some v := by
  rcases h with rfl | ⟨i, rfl⟩ <;> rfl
theorem fz_pcL {H H' : AH} {n : Nat} {sz : Int} {h t : List Nat} {tm : Int} {fi : V} (hf : isFi fi) : mapO (frz H' H (n + 1)) (pcL sz h t tm fi) = some (pcL sz h t tm fi) := mapO_same fun v hv => by
  simp only [pcL, List.mem_cons, List.not_mem_nil, or_false] at hv
  rcases hv with rfl | rfl | rfl | rfl | rfl
  · rfl
  · rfl
  · rfl
  · rfl
  · exact fz_fi hf
theorem fz_pc {H H' : AH} {n ad : Nat} {v : V} (h : isPc ad v) : frz H' H (n + 2) v = some v := by
  cases h with
  | mk sz h t tm fi h1 h2 h3 =>
    show (mapO (frz H' H (n + 1)) (pcL sz h t tm fi)).map (V.inst ad pn) = _
    rw [fz_pcL h3]; rfl
theorem fz_iref {H H' : AH} {n a ad : Nat} {sz : Int} {h t : List Nat} {tm : Int} {fi : V} (h0 : H a = none) (h1 : H' a = some (.inst ad pn (pcL sz h t tm fi))) (hf : isFi fi) : frz H' H (n + 2) (.iref ad pn a) = some (.inst ad pn (pcL sz h t tm fi)) := by
  show (match H a with
      | some _ => some (V.iref ad pn a)
      | none => (match H' a with
        | some (.inst _ ns' vs) => if ns' = pn then (mapO (frz H' H (n + 1)) vs).map (.inst ad pn) else none
        | _ => none)) = _
  rw [h0, h1]
  show (if pn = pn then (mapO (frz H' H (n + 1)) (pcL sz h t tm fi)).map (V.inst ad pn) else none) = _
  rw [if_pos rfl, fz_pcL hf]; rfl
theorem has_pc {ad : Nat} : hasC (L09.ctab ad) ad pn = true := by
  show ((decide (ad = ad) && decide (pn = pn)) || false) = true
  simp
section
variable {ad d : Nat} {H : AH} {ρ : List (Option V)} {B : AH} {Q : Fl → St → Prop} {X : String → St → Prop} {b : Bl} {i a : Nat} {n : String} {vs vs' : List V} {w : V}
theorem ev_at (h : ρ[i]? = some (some (.inst ad pn vs))) (hn : attrL n pn vs = some w) : Ev (C9 ad d) ⟨ρ, H, B⟩ (.attr (.var i) n) w := fun Q X q => ev_var (C := C9 ad d) (H := H) (B := B) h _ X (show hasC (L09.ctab ad) ad pn = true ∧ (match attrL n pn vs with
      | some v => Q v
      | none => False) from ⟨has_pc, by rw [hn]; exact q⟩)
theorem ev_ati (h : ρ[i]? = some (some (.iref ad pn a))) (ha : H a = some (.inst ad pn vs)) (hn : attrL n pn vs = some w) : Ev (C9 ad d) ⟨ρ, H, B⟩ (.attr (.var i) n) w := fun Q X q => ev_var (C := C9 ad d) (H := H) (B := B) h _ X (show (match H a with
      | some (.inst c' ns' vs) => hasC (L09.ctab ad) ad pn = true ∧ c' = ad ∧ ns' = pn ∧ (match attrL n pn vs with
        | some v => Q v
        | none => False)
      | _ => False) from by rw [ha]; exact ⟨has_pc, rfl, rfl, by rw [hn]; exact q⟩)
theorem w_seta {e : E} (hv : Ev (C9 ad d) ⟨ρ, H, B⟩ e w) (hi : ρ[i]? = some (some (.iref ad pn a))) (hB : B a = none) (ha : H a = some (.inst ad pn vs)) (hs : setAttrL n w pn vs = some vs') (hb : WB (C9 ad d) b ⟨ρ, H.upd a (.inst ad pn vs'), B⟩ Q X) : WB (C9 ad d) (.cons (.setattr (.var i) n e) b) ⟨ρ, H, B⟩ Q X :=
  hv _ _ (ev_var (C := C9 ad d) (H := H) (B := B) hi _ (fun x => X x ⟨ρ, H, B⟩) (show B a = none ∧ (match H a with
      | some (.inst c ns vs) => hasC (L09.ctab ad) c ns = true ∧ c = ad ∧ ns = pn ∧ (match setAttrL n w ns vs with
        | some vs' => WB (C9 ad d) b ⟨ρ, H.upd a (.inst c ns vs'), B⟩ Q X
        | none => False)
      | _ => False) from ⟨hB, by
        rw [ha]
        refine ⟨has_pc, rfl, rfl, ?_⟩
        show (match setAttrL n w pn vs with
        | some vs' => _
        | none => False)
        rw [hs]; exact hb⟩))
theorem w_new {e1 e2 e3 : E} {sz : Int} {h t : List Nat} (h1 : Ev (C9 ad d) ⟨ρ, H, B⟩ e1 (.int sz)) (h2 : Ev (C9 ad d) ⟨ρ, H, B⟩ e2 (lst h)) (h3 : Ev (C9 ad d) ⟨ρ, H, B⟩ e3 (lst t)) (hi : Nat.blt i ρ.length = true) (hb : ∀ a, H a = none → B a = none → WB (C9 ad d) b ⟨ρ.set i (some (.iref ad pn a)), H.upd a (.inst ad pn (pcL sz h t 0 .none)), B⟩ Q X) :
    WB (C9 ad d) (.cons (.own i (.new "Piece" (.cons e1 (.cons e2 (.cons e3 .nil))))) b) ⟨ρ, H, B⟩ Q X := h1 _ _ (h2 _ _ (h3 _ _ ⟨rfl, fun a hf => by
  show (match (match putV i (.iref ad pn a) ρ with
    | some ρ' => _
    | none => False) with
    | p => p)
  unfold putV; rw [if_pos (Nat.blt_eq.mp hi)]; exact hb a hf.1 hf.2⟩))
end
section
variable {ad d : Nat} {H : AH}
theorem sz_ok {n : Nat} (h : n ≤ 1000) : n ≤ sizeLine := Nat.le_trans h (by decide)
theorem cut_le {l : List Nat} {i j : Nat} : (cutL l i j).length ≤ j - i := by unfold cutL; rw [List.length_take]; exact Nat.min_le_left ..
theorem clip_nat {n k : Nat} : clip n (k : Int) = min k n := by
  unfold clip; rw [if_neg (Int.not_lt.mpr (Int.natCast_nonneg k))]
  rcases Nat.le_total k n with h | h
  · rw [Int.min_eq_left (Int.ofNat_le.mpr h), Int.max_eq_right (Int.natCast_nonneg k), Nat.min_eq_left h]; rfl
  · rw [Int.min_eq_right (Int.ofNat_le.mpr h), Int.max_eq_right (Int.natCast_nonneg n), Nat.min_eq_right h]; rfl
theorem clip_le {n k : Nat} : clip n (k : Int) ≤ k := clip_nat ▸ Nat.min_le_left ..
/-- a text cut from its head, or to its end -/
theorem ev_headT {C : Cx} {st : St} {e e' : E} {l : List Nat} {m : Int} (he : Ev C st e (lst l)) (hm : Ev C st e' (.int m)) (h0 : 0 ≤ m) : ∃ l' : List Nat, Ev C st (.slice e .none e') (lst l') ∧ (l'.length : Int) ≤ m := by
  refine ⟨cutL l 0 (clip (⟨l.toArray⟩ : Str).length m), fun Q X q => he _ _ (hm _ _ q), ?_⟩
  obtain ⟨M, rfl⟩ := Int.eq_ofNat_of_zero_le h0
  exact Int.ofNat_le.mpr (Nat.le_trans cut_le (Nat.le_trans (Nat.sub_le ..) clip_le))
theorem ev_tailT {C : Cx} {st : St} {e e' : E} {l : List Nat} {m : Int} (he : Ev C st e (lst l)) (hm : Ev C st e' (.int (max 0 ((l.length : Int) - m)))) (h0 : 0 ≤ m) : ∃ l' : List Nat, Ev C st (.slice e e' .none) (lst l') ∧ (l'.length : Int) ≤ m := by
  obtain ⟨M, rfl⟩ := Int.eq_ofNat_of_zero_le h0
  refine ⟨cutL l (clip l.length (max 0 ((l.length : Int) - M))) l.length, fun Q X q => he _ _ (hm _ _ q), Int.ofNat_le.mpr (Nat.le_trans cut_le ?_)⟩
  rcases Nat.le_total l.length M with h | h
  · exact Nat.le_trans (Nat.sub_le ..) h
  · rw [Int.max_eq_right (Int.sub_nonneg_of_le (Int.ofNat_le.mpr h)), ← Int.ofNat_sub h, clip_nat, Nat.min_eq_left (Nat.sub_le ..), Nat.sub_sub_self h]
    exact Nat.le_refl M
noncomputable def crB : Bl := .cons (.ite (.cmp (.slice (.var 3) (.var 5) (.bin .add (.var 5) (.len (.var 2)))) (.one .eq (.var 2))) (.cons (.append (.var 4) (.pure (.bin .add (.bin .sub (.attr (.var 0) "size") (.len (.attr (.var 0) "tail"))) (.var 5)))) .nil) .nil) .nil
noncomputable def isIs (w : V) : Prop := ∃ is : List Int, w = .lst (is.map V.int) ∧ is.length ≤ 200
theorem cr_loop {Q : V → Prop} {X : String → St → Prop} {a : Nat} {s1 : Int} {h1 t1 : List Nat} {tm : Int} {fi v1 : V} {w nr : List Nat} (hB : H a = none) (q : ∀ w, isIs w → Q w) : ∀ (m k : Nat) (is : List Int) (x5 : Option V) (H' : AH), k + m = t1.length → is.length + m ≤ 200 → H' a = some (.list (is.map V.int)) →
    Fo (C9 ad d) (.var 5) crB (.cons (.ret (.var 4)) .nil) (PK H Q) X (upL k t1.length) ⟨[some (.inst ad pn (pcL s1 h1 t1 tm fi)), some v1, some (lst w), some (lst nr), some (.ref a), x5], H', H⟩
  | 0, k, is, x5, H', e, hl, ha => by
    rw [upL_nil (by omega)]
    exact fo_nil (w_ret (ev_var rfl) (pk_of (frz_ref hB ha fun v hv => by obtain ⟨i, _, rfl⟩ := List.mem_map.mp hv; rfl) (q _ ⟨is, rfl, hl⟩)))
  | m + 1, k, is, x5, H', e, hl, ha => by
    rw [upL_cons (by omega)]
    refine fo_cons (ρ' := [some (.inst ad pn (pcL s1 h1 t1 tm fi)), some v1, some (lst w), some (lst nr), some (.ref a), some (.int k)]) rfl (w_if _ (fun _ _ q => ⟨Nat.le_of_ble_eq_true rfl, q⟩) (fun _ => w_app (w := .int (s1 - (⟨t1.toArray⟩ : Str).length + k)) rfl ha hB (ev_add (ev_sb (ev_at rfl rfl) (ev_len (ev_at rfl rfl) rfl)) (ev_var rfl)) ?_ (kn_nil (kf_nil (cr_loop hB q m (k + 1) (is ++ [_]) _ _ (by omega) (by rw [List.length_append]; show is.length + 1 + m ≤ 200; omega) (by rw [upd_eq, List.map_append]; rfl))))) fun _ => kn_nil (kf_nil (cr_loop hB q m (k + 1) is _ _ (by omega) (by omega) ha)))
    rw [List.length_map]
    exact Nat.lt_of_le_of_lt (show is.length ≤ 200 by omega) (by decide)
theorem cross_of {u v : V} {w : List Nat} (hu : isPc ad u) (hv : isPc ad v) (Q : V → Prop) (X : String → Prop) (q : ∀ w, isIs w → Q w) : (C9 ad (d + 1)).call "crossing" [u, v, lst w] H Q X := by
  cases hu with
  | mk s1 h1 t1 m1 f1 a1 b1 c1 =>
    cases hv with
    | mk s2 h2 t2 m2 f2 a2 b2 c2 =>
      have hl : (⟨t1.toArray⟩ : Str).length = t1.length := by simp [Str.length]
      have hl2 : (⟨h2.toArray⟩ : Str).length = h2.length := by simp [Str.length]
      refine call_of (fn := L09.F_crossing) rfl rfl (by decide) (w_asg (w := lst (t1 ++ h2)) (by
        have e := ev_cat (C := C9 ad d) (st := ⟨[some (.inst ad pn (pcL s1 h1 t1 m1 f1)), some (.inst ad pn (pcL s2 h2 t2 m2 f2)), some (lst w), none, none, none], H, H⟩) (a := .attr (.var 0) "tail") (b := .attr (.var 1) "head") (s := ⟨t1.toArray⟩) (t := ⟨h2.toArray⟩) (ev_at rfl rfl) (ev_at rfl rfl) (by rw [hl, hl2]; exact sz_ok (by omega))
        rwa [show (⟨t1.toArray⟩ ++ ⟨h2.toArray⟩ : Str) = ⟨(t1 ++ h2).toArray⟩ from by apply Str.ext'; simp [Str.cps_append]] at e) rfl (w_own0 rfl fun a h1 h2 => w_for (xs := upL 0 t1.length) (ds := []) (ei_range1 (ev_len (n := t1.length) (ev_at rfl rfl) (by show some _ = _; rw [hl])) ⟨by omega, by omega⟩) (.inr nofun) (cr_loop h2 q t1.length 0 [] none _ (by omega) (by show 0 + _ ≤ _; omega) upd_eq)))
end
end Lib
end

section
set_option autoImplicit false
set_option linter.unusedSimpArgs false
set_option linter.unusedVariables false
namespace Lib
open PySem Mine
section
variable {ad d : Nat} {H : AH} {w : List Nat}
theorem ev_lenW {C : Cx} {ρ : List (Option V)} {H B : AH} {i : Nat} (h : ρ[i]? = some (some (lst w))) : Ev C ⟨ρ, H, B⟩ (.len (.var i)) (.int w.length) := ev_len (ev_var h) (by show some (⟨w.toArray⟩ : Str).length = _; simp [Str.length])
theorem ev_catW {C : Cx} {st : St} {e e' : E} {x y : List Nat} (ha : Ev C st e (lst x)) (hb : Ev C st e' (lst y)) (hx : x.length ≤ 200) (hy : y.length ≤ 200) : Ev C st (.bin .add e e') (lst (x ++ y)) := by
  have hl : ∀ l : List Nat, (⟨l.toArray⟩ : Str).length = l.length := fun l => by simp [Str.length]
  have := ev_cat ha hb (by rw [hl, hl]; exact sz_ok (by omega))
  rwa [show (⟨x.toArray⟩ ++ ⟨y.toArray⟩ : Str) = ⟨(x ++ y).toArray⟩ from by apply Str.ext'; simp [Str.cps_append]] at this
noncomputable def Wd (w : List Nat) : Prop := 1 ≤ w.length ∧ w.length ≤ 200
theorem piece_of (c : Nat) (hw : Wd w) (Q : V → Prop) (X : String → Prop) (q : ∀ v, isPc ad v → Q v) : (C9 ad (d + 1)).call "piece_of" [lst [c], lst w] H Q X := by
  obtain ⟨l', e', hl'⟩ := ev_headT (C := C9 ad d) (st := ⟨[some (lst [c]), some (lst w), some (.int ((w.length : Int) - 1)), none], H, H⟩) (e := .var 0) (e' := .var 2) (l := [c]) (m := (w.length : Int) - 1) (fun _ _ q => q) (fun _ _ q => q) (by have := hw.1; omega)
  have hl : l'.length ≤ 200 := by have := hw.2; omega
  refine call_of (fn := L09.F_piece_of) rfl rfl (by decide) (w_asg (w := .int ((w.length : Int) - 1)) (ev_sb (ev_lenW rfl) ev_int) rfl (w_new (sz := 1) ev_int e' e' rfl fun a h1 h2 => ?_))
  refine w_if _ (fun _ _ q => ⟨Nat.le_of_ble_eq_true rfl, q⟩) (fun _ => w_seta (w := .int 1) ev_int rfl h2 upd_eq rfl (w_seta (w := .int 0) ev_int rfl h2 upd_eq rfl (kn_nil (w_ret (ev_var rfl) (pk_of (fz_iref (sz := 1) (h := l') (t := l') (tm := 1) (fi := .int 0) h2 upd_eq (.inr ⟨0, rfl⟩)) (q _ (.mk _ _ _ _ _ hl hl (.inr ⟨0, rfl⟩)))))))) fun _ => kn_nil (w_ret (ev_var rfl) (pk_of (fz_iref h2 upd_eq (.inl rfl)) (q _ (.mk _ _ _ _ _ hl hl (.inl rfl)))))
noncomputable def twM : Bl := (.cons (.own 6 (.new "Piece" (.cons (.bin .add (.attr (.var 0) "size") (.attr (.var 1) "size")) (.cons (.var 4) (.cons (.var 5) .nil)))))
      (.cons (.assign (.var 7) (.call "crossing" (.cons (.var 0) (.cons (.var 1) (.cons (.var 2) .nil)))))
      (.cons (.setattr (.var 6) "times" (.bin .add (.bin .add (.attr (.var 0) "times") (.len (.var 7))) (.attr (.var 1) "times")))
      (.cons (.setattr (.var 6) "first" (.attr (.var 0) "first"))
      (.cons (.ite (.and (.cmp (.attr (.var 6) "first") (.one .is .none)) (.cmp (.len (.var 7)) (.one .gt (.int 0)))) (.cons (.setattr (.var 6) "first" (.sub (.var 7) (.int 0))) .nil) .nil)
      (.cons (.ite (.and (.cmp (.attr (.var 6) "first") (.one .is .none)) (.cmp (.attr (.var 1) "first") (.one .isnot .none))) (.cons (.setattr (.var 6) "first" (.bin .add (.attr (.var 0) "size") (.attr (.var 1) "first"))) .nil) .nil) (.cons (.ret (.var 6)) .nil)))))))
theorem two_of {u v : V} (hw : Wd w) (hu : isPc ad u) (hv : isPc ad v) (Q : V → Prop) (X : String → Prop) (q : ∀ v, isPc ad v → Q v) : (C9 ad (d + 2)).call "two" [u, v, lst w] H Q X := by
  have hu' := hu
  have hv' := hv
  cases hu with
  | mk s1 h1 t1 m1 f1 a1 b1 c1 =>
  cases hv with
  | mk s2 h2 t2 m2 f2 a2 b2 c2 =>
  have h0 : 0 ≤ (w.length : Int) - 1 := by have := hw.1; omega
  have hw2 := hw.2
  generalize hU : V.inst ad pn (pcL s1 h1 t1 m1 f1) = U at hu' ⊢
  generalize hV : V.inst ad pn (pcL s2 h2 t2 m2 f2) = W at hv' ⊢
  have eU : ∀ {ρ : List (Option V)} {H' B : AH} {n : String} {x : V}, ρ[0]? = some (some U) → attrL n pn (pcL s1 h1 t1 m1 f1) = some x → Ev (C9 ad (d + 1)) ⟨ρ, H', B⟩ (.attr (.var 0) n) x := fun h e => ev_at (by rw [h, ← hU]) e
  have eV : ∀ {ρ : List (Option V)} {H' B : AH} {n : String} {x : V}, ρ[1]? = some (some W) → attrL n pn (pcL s2 h2 t2 m2 f2) = some x → Ev (C9 ad (d + 1)) ⟨ρ, H', B⟩ (.attr (.var 1) n) x := fun h e => ev_at (by rw [h, ← hV]) e
  obtain ⟨hd, e1, l1⟩ := ev_headT (C := C9 ad (d + 1)) (st := ⟨[some U, some W, some (lst w), some (.int ((w.length : Int) - 1)), none, none, none, none, none], H, H⟩) (e := .bin .add (.attr (.var 0) "head") (.attr (.var 1) "head")) (e' := .var 3) (ev_catW (eU rfl rfl) (eV rfl rfl) a1 a2) (fun _ _ q => q) h0
  refine call_of (fn := L09.F_two) rfl rfl (by decide) (w_asg (w := .int ((w.length : Int) - 1)) (ev_sb (ev_lenW rfl) ev_int) rfl (w_asg e1 rfl ?_))
  -- behind the head
  have fin : ∀ (hd tl : List Nat) (x7 x8 : Option V) (tm : Int) (fv : V) (a : Nat) (H' : AH), hd.length ≤ 200 → tl.length ≤ 200 → isFi fv → H a = none → H' a = some (.inst ad pn (pcL (s1 + s2) hd tl tm fv)) →
      WB (C9 ad (d + 1)) (.cons (.ite (.and (.cmp (.attr (.var 6) "first") (.one .is .none)) (.cmp (.attr (.var 1) "first") (.one .isnot .none))) (.cons (.setattr (.var 6) "first" (.bin .add (.attr (.var 0) "size") (.attr (.var 1) "first"))) .nil) .nil) (.cons (.ret (.var 6)) .nil)) ⟨[some U, some W, some (lst w), some (.int ((w.length : Int) - 1)), some (lst hd), some (lst tl), some (.iref ad pn a), x7, x8], H', H⟩ (PK H Q) (fun x _ => X x) := by
    intro hd tl x7 x8 tm fv a H' g1 g2 g3 hB ha
    refine w_if _ (ev_and (ev_cmp (ev_ati rfl ha rfl) (ec_one ev_none cm_is)) fun _ => ev_cmp (eV rfl rfl) (ec_one ev_none cm_isnot)) (fun e => ?_) fun _ => kn_nil (w_ret (ev_var rfl) (pk_of (fz_iref hB ha g3) (q _ (.mk _ _ _ _ _ g1 g2 g3))))
    rcases c2 with rfl | ⟨i, rfl⟩
    · rw [show (!isNone V.none) = false from rfl, Bool.and_false] at e; cases e
    · exact w_seta (ev_add (eU rfl rfl) (eV rfl rfl)) rfl hB ha rfl (kn_nil (w_ret (ev_var rfl) (pk_of (fz_iref (tm := tm) (fi := .int (s1 + i)) hB upd_eq (.inr ⟨_, rfl⟩)) (q _ (.mk _ _ _ _ _ g1 g2 (.inr ⟨_, rfl⟩))))))
  have mid : ∀ (hd tl : List Nat) (x8 : Option V), hd.length ≤ 200 → tl.length ≤ 200 → WB (C9 ad (d + 1)) twM
      ⟨[some U, some W, some (lst w), some (.int ((w.length : Int) - 1)), some (lst hd), some (lst tl), none, none, x8], H, H⟩ (PK H Q) (fun x _ => X x) := by
    intro hd tl x8 g1 g2
    refine w_new (ev_add (eU rfl rfl) (eV rfl rfl)) (ev_var rfl) (ev_var rfl) rfl fun a hf hB => w_asgc (P := isIs) (evs_cons (ev_var rfl) (evs_cons (ev_var rfl) (evs_cons (ev_var rfl) evs_nil))) rfl (fun Q' X' k => cross_of hu' hv' Q' X' k) ?_
    rintro _ ⟨is, rfl, his⟩
    refine w_seta (ev_add (ev_add (eU rfl rfl) (ev_len (n := is.length) (ev_var rfl) (by show some _ = _; rw [List.length_map]))) (eV rfl rfl)) rfl hB upd_eq rfl (w_seta (eU rfl rfl) rfl hB upd_eq rfl (w_if _ (ev_and (ev_cmp (ev_ati rfl upd_eq rfl) (ec_one ev_none cm_is)) fun _ => ev_cmp (ev_len (n := is.length) (ev_var rfl) (by show some _ = _; rw [List.length_map])) (ec_one ev_int cm_gt)) (fun e => ?_) fun _ => kn_nil (fin hd tl _ _ _ f1 a _ g1 g2 c1 hB upd_eq)))
    cases is with
    | nil => rw [show decide ((([] : List Int).length : Int) > 0) = false from rfl, Bool.and_false] at e; cases e
    | cons i is => exact w_seta (w := .int i) (ev_sub (ev_var rfl) ev_int (sb_lst (n := 0) rfl)) rfl hB upd_eq rfl (kn_nil (fin hd tl _ _ _ (.int i) a _ g1 g2 (.inr ⟨i, rfl⟩) hB upd_eq))
  have tlp : ∀ (hd : List Nat), hd.length ≤ 200 → WB (C9 ad (d + 1)) (.cons (.assign (.var 5) (.attr (.var 1) "tail")) (.cons (.ite (.cmp (.attr (.var 1) "size") (.one .lt (.var 3))) (.cons (.assign (.var 8) (.bin .add (.attr (.var 0) "tail") (.attr (.var 1) "tail"))) (.cons (.assign (.var 5) (.slice (.var 8) (.max2 (.int 0) (.bin .sub (.len (.var 8)) (.var 3))) .none)) .nil)) .nil) twM)) ⟨[some U, some W, some (lst w), some (.int ((w.length : Int) - 1)), some (lst hd), none, none, none, none], H, H⟩ (PK H Q) (fun x _ => X x) := by
    intro hd g1
    refine w_asg (eV rfl rfl) rfl (w_if _ (ev_cmp (eV rfl rfl) (ec_one (ev_var rfl) cm_lt)) (fun _ => ?_) fun _ => kn_nil (mid hd t2 none g1 b2))
    obtain ⟨tl, e2, l2⟩ := ev_tailT (C := C9 ad (d + 1)) (st := ⟨[some U, some W, some (lst w), some (.int ((w.length : Int) - 1)), some (lst hd), some (lst t2), none, none, some (lst (t1 ++ t2))], H, H⟩) (e := .var 8) (e' := .max2 (.int 0) (.bin .sub (.len (.var 8)) (.var 3))) (l := t1 ++ t2) (m := (w.length : Int) - 1) (fun _ _ q => q) (ev_max2 ev_int (ev_sb (ev_lenW rfl) (ev_var rfl))) h0
    exact w_asg (ev_catW (eU rfl rfl) (eV rfl rfl) b1 b2) rfl (w_asg e2 rfl (kn_nil (mid hd tl _ g1 (by omega))))
  refine w_if _ (ev_cmp (eU rfl rfl) (ec_one (ev_var rfl) cm_ge)) (fun _ => w_asg (eU rfl rfl) rfl (kn_nil (tlp h1 a1))) fun _ => kn_nil (tlp hd (by omega))
end
end Lib
end

section
set_option autoImplicit false
set_option linter.unusedSimpArgs false
set_option linter.unusedVariables false
namespace Lib
open PySem Mine
/-! law 09: whole -/
noncomputable def EvQ (C : Cx) (st : St) (e : E) (P : V → Prop) : Prop := ∀ (Q : V → Prop) (X : String → Prop), (∀ w, P w → Q w) → WE C e st Q X
section
variable {C : Cx} {ρ : List (Option V)} {H B : AH} {Q : Fl → St → Prop} {X : String → St → Prop} {b : Bl} {P : V → Prop} {e : E}
theorem w_asgq {i : Nat} (he : EvQ C ⟨ρ, H, B⟩ e P) (hi : Nat.blt i ρ.length = true) (hb : ∀ w, P w → WB C b ⟨ρ.set i (some w), H, B⟩ Q X) : WB C (.cons (.assign (.var i) e) b) ⟨ρ, H, B⟩ Q X := he _ _ fun w hw => by
  show (match (match putV i w ρ with
    | some ρ' => _
    | none => False) with
    | p => p)
  unfold putV; rw [if_pos (Nat.blt_eq.mp hi)]; exact hb w hw
theorem w_appq {i a : Nat} {vs : List V} (hx : ρ[i]? = some (some (.ref a))) (ha : H a = some (.list vs)) (hB : B a = none) (he : EvQ C ⟨ρ, H, B⟩ e P) (hl : vs.length < sizeLine) (hb : ∀ w, P w → WB C b ⟨ρ, H.upd a (.list (vs ++ [w])), B⟩ Q X) : WB C (.cons (.append (.var i) (.pure e)) b) ⟨ρ, H, B⟩ Q X := by
  refine ev_var (C := C) (H := H) (B := B) hx _ (fun x => X x ⟨ρ, H, B⟩) ?_
  show (match H a with
      | some (.list _) => _
      | _ => False)
  rw [ha]
  refine he _ _ fun w hw => ?_
  show (match H a with
        | some (.list vs) => _
        | _ => False)
  rw [ha]
  exact ⟨hB, hl, hb w hw⟩
end
section
variable {ad d : Nat} {H : AH} {w : List Nat} {ps : List (Nat × Nat)}
theorem by_ch {u : V} (c : Nat) (hw : Wd w) (Q : V → Prop) (X : String → Prop) (q : ∀ v, isPc ad v → Q v) : (C9 ad (d + 2)).call "piece_by" [lst [c], u, lst w] H Q X := call_of (fn := L09.F_piece_by) rfl rfl (by decide) (piece_of c hw _ _ fun v hv => pk_of (fz_pc hv) (q v hv))
theorem by_ru {u v : V} {k : Nat} (hs : Sb H u (.int k) v) (hv : isPc ad v) (Q : V → Prop) (X : String → Prop) (q : Q v) : (C9 ad (d + 1)).call "piece_by" [.int k, u, lst w] H Q X := call_of (fn := L09.F_piece_by) rfl rfl (by decide) (hs _ (pk_of (fz_pc hv) q))
noncomputable def whB1 : Bl := .cons (.append (.var 2) (.pure (.call "two" (.cons (.call "piece_by" (.cons (.sub (.var 3) (.int 0)) (.cons (.var 2) (.cons (.var 1) .nil)))) (.cons (.call "piece_by" (.cons (.sub (.var 3) (.int 1)) (.cons (.var 2) (.cons (.var 1) .nil)))) (.cons (.var 1) .nil)))))) .nil
theorem wh_loop1 {Q : Fl → St → Prop} {X : String → St → Prop} {r : Bl} {a : Nat} {bk : V} (hw : Wd w) (hB : H a = none) (hr : ∀ ws x3 H', ws.length ≤ 20 → (∀ v ∈ ws, isPc ad v) → ws.length = ps.length → H' a = some (.list ws) → WB (C9 ad (d + 2)) r ⟨[some bk, some (lst w), some (.ref a), x3, none, none], H', H⟩ Q X) (hn : ps.length ≤ 20) :
    ∀ (l : List (Nat × Nat)) (ws : List V) (x3 : Option V) (H' : AH), ws.length + l.length = ps.length → (∀ v ∈ ws, isPc ad v) → H' a = some (.list ws) → Fo (C9 ad (d + 2)) (.var 3) whB1 r Q X (l.map pr9) ⟨[some bk, some (lst w), some (.ref a), x3, none, none], H', H⟩
  | [], ws, x3, H', hl, hp, ha => fo_nil (hr ws x3 H' (by rw [← hl] at hn; exact hn) hp hl ha)
  | p :: l, ws, x3, H', hl, hp, ha => by
    have hl : ws.length + (l.length + 1) = ps.length := hl
    refine fo_cons (ρ' := [some bk, some (lst w), some (.ref a), some (pr9 p), none, none]) rfl (w_appq (P := isPc ad) rfl ha hB (fun Q X q => by_ch p.1 hw _ _ fun u hu => by_ch p.2 hw _ _ fun v hv => two_of hw hu hv _ _ q) (Nat.lt_of_le_of_lt (show ws.length ≤ 20 by omega) (by decide)) fun v hv => kf_nil (wh_loop1 hw hB hr hn l (ws ++ [v]) _ _ (by rw [List.length_append]; show ws.length + 1 + _ = _; omega) (fun u hu => ?_) upd_eq))
    rcases List.mem_append.mp hu with hu | hu
    · exact hp u hu
    · rw [List.mem_singleton.mp hu]; exact hv
noncomputable def whB2 : Bl := .cons (.assign (.var 4) (.call "two" (.cons (.var 4) (.cons (.call "piece_by" (.cons (.var 5) (.cons (.var 2) (.cons (.var 1) .nil)))) (.cons (.var 1) .nil))))) .nil
theorem wh_loop2 {Q : V → Prop} {X : String → St → Prop} {a : Nat} {bk : V} {ws : List V} {H' : AH} (hw : Wd w) (hp : ∀ v ∈ ws, isPc ad v) (ha : H' a = some (.list ws)) (q : ∀ v, isPc ad v → Q v) :
    ∀ (ks : List Nat) (f : V) (x3 x5 : Option V), (∀ k ∈ ks, k < ws.length) → isPc ad f → Fo (C9 ad (d + 2)) (.var 5) whB2 (.cons (.ret (.var 4)) .nil) (PK H Q) X (ks.map fun (k : Nat) => V.int k) ⟨[some bk, some (lst w), some (.ref a), x3, some f, x5], H', H⟩
  | [], f, x3, x5, _, hf => fo_nil (w_ret (ev_var rfl) (pk_of (fz_pc hf) (q f hf)))
  | k :: ks, f, x3, x5, hk, hf => by
    have hlt := hk k (List.mem_cons_self ..)
    have hv := hp ws[k] (List.getElem_mem hlt)
    exact fo_cons (ρ' := [some bk, some (lst w), some (.ref a), x3, some f, some (.int k)]) rfl (w_asgq (P := isPc ad) (fun Q X q => by_ru (H := H') (sb_ref ha (List.getElem?_eq_getElem hlt)) hv _ _ (two_of hw hf hv _ _ q)) rfl fun f' hf' => kf_nil (wh_loop2 hw hp ha q ks f' _ _ (fun j hj => hk j (List.mem_cons_of_mem _ hj)) hf'))
noncomputable def whT : E := .or (.not (.call "is_text" (.cons (.var 1) .nil))) (.not (.cmp (.int 1) (.more .le (.len (.var 1)) (.one .le (.glob "MOST_WORD")))))
theorem ev_whT {l : List Nat} {bk : V} (h : isTx (lst l) = true) : Ev (C9 ad (d + 1)) ⟨[some bk, some (lst l), none, none, none, none], H, H⟩ whT (.bool (!(decide ((1 : Int) ≤ l.length) && decide ((l.length : Int) ≤ 200)))) := by
  have ht : Ca (C9 ad (d + 1)) "is_text" [lst l] H (.bool (isTx (lst l))) := ca_text3 has9 rfl
  rw [h] at ht
  exact ev_or (p := false) (a := .not (.call "is_text" (.cons (.var 1) .nil))) (fun _ _ q => ht _ _ q) fun _ => ev_not (ev_cmp (a := .int 1) ev_int (ec_more (ev_lenW rfl) cm_le fun _ => ec_one (ev_glob (x := "MOST_WORD") (v := .int 200) rfl) cm_le))
theorem whole_bad {v : V} (hb : Ok9 ps) (hp : pl v = true) (h : isTx v = false ∨ ∃ l : List Nat, v = lst l ∧ isTx v = true ∧ ¬ Wd l) : Cr (C9 ad (d + 5)) "whole" [bk9 ps, v] H "NoWord" := cr_of (fn := L09.F_whole) rfl rfl (by decide) fun Q X q => w_exp (w := bk9 ps) (fun _ _ q => ca_need hb _ _ q) (by
  rcases h with h | ⟨l, rfl, h, hl⟩
  · have ht : Ca (C9 ad (d + 4)) "is_text" [v] H (.bool (isTx v)) := ca_text3 (d := d + 3) has9 hp
    rw [h] at ht
    exact w_ift (t := whT) (fun _ _ q => ht _ _ q) (x_rz ev_str q)
  · have e := ev_whT (ad := ad) (d := d + 3) (H := H) (bk := bk9 ps) h
    rw [show (decide ((1 : Int) ≤ l.length) && decide ((l.length : Int) ≤ 200)) = false from by
      rw [Bool.and_eq_false_iff, decide_eq_false_iff_not, decide_eq_false_iff_not]
      unfold Wd at hl; omega] at e
    exact w_ift e (x_rz ev_str q))
theorem whole_good (hb : Ok9 ps) (h : isTx (lst w) = true) (hw : Wd w) (Q : V → Prop) (X : String → Prop) (q : ∀ v, isPc ad v → Q v) : (C9 ad (d + 5)).call "whole" [bk9 ps, lst w] H Q X := by
  have e := ev_whT (ad := ad) (d := d + 3) (H := H) (bk := bk9 ps) h
  rw [show (decide ((1 : Int) ≤ w.length) && decide ((w.length : Int) ≤ 200)) = true from by
    rw [Bool.and_eq_true, decide_eq_true_eq, decide_eq_true_eq]
    have := hw.1; have := hw.2; omega] at e
  refine call_of (fn := L09.F_whole) rfl rfl (by decide) (w_exp (w := bk9 ps) (fun _ _ q => ca_need hb _ _ q) (w_iff e (kn_nil (w_own0 rfl fun a h1 h2 => w_for (xs := ps.map pr9) (ds := []) (fun _ _ q => q) (.inr nofun) (wh_loop1 (d := d + 2) hw h2 (fun ws x3 H' l1 hp l2 ha => ?_) hb.2 ps [] none _ (by show 0 + _ = _; omega) nofun upd_eq)))))
  refine w_asg (w := .inst ad pn (pcL 0 [] [] 0 .none)) (fun _ _ q => ⟨rfl, q⟩) rfl (w_for (xs := row9 ps.length) (ds := []) (fun _ _ q => q) (.inr nofun) (wh_loop2 (d := d + 2) hw hp ha q (List.range ps.length) _ _ _ (fun k hk => by rw [l2]; exact List.mem_range.mp hk) (.mk 0 [] [] 0 .none (by decide) (by decide) (.inl rfl))))
theorem often_good (hb : Ok9 ps) (h : isTx (lst w) = true) (hw : Wd w) : Any (C9 ad (d + 6)) "how_often" [bk9 ps, lst w] H := fun Q X q => call_of (fn := L09.F_how_often) rfl rfl (by decide) (whole_good hb h hw _ _ fun v hv => by
  cases hv with
  | mk sz h t tm fi h1 h2 h3 => exact ⟨has_pc, q _ fun _ _ => rfl⟩)
theorem first_good (hb : Ok9 ps) (h : isTx (lst w) = true) (hw : Wd w) : Any (C9 ad (d + 6)) "first_place" [bk9 ps, lst w] H := fun Q X q => call_of (fn := L09.F_first_place) rfl rfl (by decide) (whole_good hb h hw _ _ fun v hv => by
  cases hv with
  | mk sz h t tm fi h1 h2 h3 => exact ⟨has_pc, pk_of (fz_fi h3) (q _ fun _ _ => fz_fi h3)⟩)
theorem often_bad {v : V} (hb : Ok9 ps) (hp : pl v = true) (h : isTx v = false ∨ ∃ l : List Nat, v = lst l ∧ isTx v = true ∧ ¬ Wd l) : Cr (C9 ad (d + 6)) "how_often" [bk9 ps, v] H "NoWord" := cr_of (fn := L09.F_how_often) rfl rfl (by decide) fun Q X q => whole_bad hb hp h _ _ q
theorem first_bad {v : V} (hb : Ok9 ps) (hp : pl v = true) (h : isTx v = false ∨ ∃ l : List Nat, v = lst l ∧ isTx v = true ∧ ¬ Wd l) : Cr (C9 ad (d + 6)) "first_place" [bk9 ps, v] H "NoWord" := cr_of (fn := L09.F_first_place) rfl rfl (by decide) fun Q X q => whole_bad hb hp h _ _ q
end
end Lib
end

section
set_option autoImplicit false
set_option linter.unusedSimpArgs false
set_option linter.unusedVariables false
namespace Lib
open PySem Mine
/-! law 09: what is asked, the word for it, what is due -/
noncomputable def place9 : List Nat := [112, 108, 97, 99, 101, 32, 118, 97, 108, 117, 101]
noncomputable def word9 : List Nat := [119, 111, 114, 100, 32, 118, 97, 108, 117, 101]
noncomputable def text9 : List Nat := [116, 101, 120, 116, 32, 118, 97, 108, 117, 101]
noncomputable def good9 : List Nat := [103, 111, 111, 100]
theorem l_place : Str.ofString "place value" = ⟨place9.toArray⟩ := by decide +kernel
theorem l_word : Str.ofString "word value" = ⟨word9.toArray⟩ := by decide +kernel
theorem l_text : Str.ofString "text value" = ⟨text9.toArray⟩ := by decide +kernel
theorem l_good : Str.ofString "good" = ⟨good9.toArray⟩ := by decide +kernel
theorem ev_li {C : Cx} {st : St} {s : Str} {l : List Nat} (h : s = ⟨l.toArray⟩) : Ev C st (.str s) (lst l) := h ▸ ev_str
/-- what the word is for an exception -/
noncomputable def flS (c t : String) (s : Str) : Str := ⟨(repL (if subX c t then 1 else 0) s.cps.toList).toArray⟩
section
variable {ad d : Nat} {H : AH} {ps : List (Nat × Nat)}
theorem ev_fl {C : Cx} {ρ : List (Option V)} {H B : AH} {c t : String} {s : Str} (h4 : ρ[4]? = some (some (.exc c))) (hc : allX.contains c = true) (hs : s.length ≤ 10) : Ev C ⟨ρ, H, B⟩ (.bin .mul (.str s) (.intOf (.isexc (.var 4) t))) (.str (flS c t s)) := fun Q X q => ev_var (C := C) (H := H) (B := B) h4 _ X (by
  refine ⟨hc, ?_⟩
  show 0 ≤ (if subX c t then (1 : Int) else 0) ∧ (if subX c t then (1 : Int) else 0) < 2 ^ 30 ∧ s.length * (if subX c t then (1 : Int) else 0).toNat ≤ sizeLine ∧ Q (.str ⟨(repL (if subX c t then (1 : Int) else 0).toNat s.cps.toList).toArray⟩)
  unfold flS at q
  revert q
  cases subX c t <;> intro q
  · exact ⟨by decide, by decide, Nat.zero_le _, q⟩
  · exact ⟨by decide, by decide, Nat.le_trans (show s.length * 1 ≤ 10 by omega) (by decide), q⟩)
theorem flS_len {c t : String} {s : Str} (hs : s.length ≤ 10) : (flS c t s).length ≤ 10 := by
  unfold flS
  cases subX c t
  · exact Nat.zero_le _
  · show (repL 1 s.cps.toList).toArray.size ≤ 10
    simpa [repL, Str.length] using hs
noncomputable def wordS (c : String) : Str := (((flS c "NoPlace" (Str.ofString "place ")) ++ (flS c "NoWord" (Str.ofString "word "))) ++ flS c "NoText" (Str.ofString "text ") ++ flS c "NoBook" (Str.ofString "book ")) ++ flS c "ValueError" (Str.ofString "value")
theorem word_of_bad {c : String} {v0 v1 v2 v3 : V} (hc : allX.contains c = true) (hs : subX c "BookError" = true) (h : Cr (C9 ad (d + 7)) "_law_asked" [v0, v1, v2, v3] H c) : Ca (C9 ad (d + 8)) "_law_word_of" [v0, v1, v2, v3] H (.str (wordS c)) := ca_of (fn := L09.F_law_word_of) rfl rfl (by decide) fun Q X q => by
  have l1 : ∀ {t : String} {s : Str}, s.length ≤ 10 → (flS c t s).length ≤ 10 := flS_len
  have sz : ∀ {x y : Str}, x.length ≤ 40 → y.length ≤ 10 → x.length + y.length ≤ sizeLine := fun h1 h2 => Nat.le_trans (show _ ≤ 50 by omega) (by decide)
  have la : ∀ (x y : Str), (x ++ y).length = x.length + y.length := fun x y => by simp [Str.length, Str.cps_append]
  have p1 : (Str.ofString "place ").length ≤ 10 := by decide
  have p2 : (Str.ofString "word ").length ≤ 10 := by decide
  have p3 : (Str.ofString "text ").length ≤ 10 := by decide
  have p4 : (Str.ofString "book ").length ≤ 10 := by decide
  have p5 : (Str.ofString "value").length ≤ 10 := by decide
  have q1 := l1 (t := "NoPlace") p1
  have q2 := l1 (t := "NoWord") p2
  have q3 := l1 (t := "NoText") p3
  have q4 := l1 (t := "NoBook") p4
  have q5 := l1 (t := "ValueError") p5
  refine h _ _ ⟨hs, Nat.le_of_ble_eq_true rfl, ?_⟩
  refine w_asg (ev_cat (ev_fl rfl hc p1) (ev_fl rfl hc p2) (sz (by omega) q2)) rfl (w_asg (ev_cat (ev_cat (ev_var rfl) (ev_fl rfl hc p3) (sz (by rw [la]; omega) q3)) (ev_fl rfl hc p4) (sz (by rw [la, la]; omega) q4)) rfl (w_ret (ev_cat (ev_var rfl) (ev_fl rfl hc p5) (sz (by rw [la, la, la]; omega) q5)) ?_))
  exact (show PK H Q (.ret (.str (wordS c))) ⟨[], H, H⟩ from pk_of rfl q)
theorem word_of_good {v0 v1 v2 v3 : V} (h : Any (C9 ad (d + 7)) "_law_asked" [v0, v1, v2, v3] H) : Ca (C9 ad (d + 8)) "_law_word_of" [v0, v1, v2, v3] H (lst good9) := ca_of (fn := L09.F_law_word_of) rfl rfl (by decide) fun Q X q => h _ _ fun w _ => w_ret (ev_li l_good) (pk_of rfl q)
theorem wordS_place : wordS "NoPlace" = ⟨place9.toArray⟩ := by decide +kernel
theorem wordS_word : wordS "NoWord" = ⟨word9.toArray⟩ := by decide +kernel
theorem wordS_text : wordS "NoText" = ⟨text9.toArray⟩ := by decide +kernel
/-! the ways -/
theorem asked_step {y n : Int} {f : String} {es : Es} {r : Bl} {st : St} {Q : Fl → St → Prop} {X : String → St → Prop} (h0 : st.ρ[0]? = some (some (.int y))) (h1 : y = n → WE (C9 ad (d + 6)) (.call f es) st (fun v => Q (.ret v) st) (fun x => X x st)) (h2 : y ≠ n → WB (C9 ad (d + 6)) r st Q X) : WB (C9 ad (d + 6)) (.cons (.ite (.cmp (.var 0) (.one .eq (.int n))) (.cons (.ret (.call f es)) .nil) .nil) r) st Q X := by
  obtain ⟨ρ, H, B⟩ := st
  exact w_if (decide (y = n)) (ev_cmp (ev_var h0) (ec_one ev_int cm_eq)) (fun e => h1 (of_decide_eq_true e)) fun e => kn_nil (h2 (of_decide_eq_false e))
/-- asked by way 0 .. 5 -/
noncomputable def askF (y : Int) : String := if y = 0 then "sign_at" else if y = 1 then "cut" else if y = 2 then "cut" else if y = 3 then "how_often" else if y = 4 then "first_place" else "made"
noncomputable def askA (y : Int) (v1 v2 v3 : V) : List V := if y = 0 then [v1, v2] else if y = 1 then [v1, v2, v3] else if y = 2 then [v1, v3, v2] else if y = 3 then [v1, v2] else if y = 4 then [v1, v2] else [v2]
theorem asked_of {y : Int} {v1 v2 v3 : V} {Q : V → Prop} {X : String → Prop} (h : ∀ Q' : V → Prop, (∀ w w', frz H H 8 w = some w' → Q w' → Q' w) → (C9 ad (d + 6)).call (askF y) (askA y v1 v2 v3) H Q' X) : (C9 ad (d + 7)).call "_law_asked" [.int y, v1, v2, v3] H Q X := by
  have hq : ∀ w w', frz H H 8 w = some w' → Q w' → PK H Q (.ret w) ⟨[some (.int y), some v1, some v2, some v3], H, H⟩ := fun w w' h1 h2 => pk_of h1 h2
  refine call_of (fn := L09.F_law_asked) rfl rfl (by decide) (asked_step rfl (fun e => ?_) fun n0 => asked_step rfl (fun e => ?_) fun n1 => asked_step rfl (fun e => ?_) fun n2 => asked_step rfl (fun e => ?_) fun n3 => asked_step rfl (fun e => ?_) fun n4 => ?_)
  · subst e; exact h _ hq
  · subst e; exact h _ hq
  · subst e; exact h _ hq
  · subst e; exact h _ hq
  · subst e; exact h _ hq
  · unfold askF askA at h
    rw [if_neg n0, if_neg n1, if_neg n2, if_neg n3, if_neg n4, if_neg n0, if_neg n1, if_neg n2, if_neg n3, if_neg n4] at h
    exact h _ hq
end
end Lib
end

section
set_option autoImplicit false
set_option linter.unusedSimpArgs false
set_option linter.unusedVariables false
namespace Lib
open PySem Mine
section
variable {ad d : Nat} {H : AH} {ps : List (Nat × Nat)}
theorem ca_lwhole {v : V} (hp : pl v = true) : Ca (C9 ad (d + 1)) "_law_whole" [v] H (.bool (isWh v)) := ca_of (fn := L09.F_law_whole) rfl rfl (by decide) fun Q X q => by
  cases v with
  | ref => cases hp
  | inst => cases hp
  | iref => cases hp
  | exc => cases hp
  | _ => exact q
noncomputable def dueD (y t o m : Int) : Bool := (decide (t < 0) || decide (t > m - (if decide (y = 0) then 1 else 0))) || ((decide (y = 1) && decide (t > o)) || (decide (y = 2) && decide (o > t)))
theorem due_no {y o m : Int} {v : V} (hp : pl v = true) (hv : isWh v = false) : Ca (C9 ad (d + 2)) "_law_place_due" [.int y, v, .int o, .int m] H (lst place9) := ca_of (fn := L09.F_law_place_due) rfl rfl (by decide) fun Q X q => by
  have h := ca_lwhole (ad := ad) (d := d) (H := H) hp
  rw [hv] at h
  exact w_ift (fun _ _ q => h _ _ q) (r2 (ev_li l_place) rfl q)
theorem due_int {y t o m : Int} : Ca (C9 ad (d + 2)) "_law_place_due" [.int y, .int t, .int o, .int m] H (lst (if dueD y t o m then place9 else good9)) := ca_of (fn := L09.F_law_place_due) rfl rfl (by decide) fun Q X q => by
  have h : Ca (C9 ad (d + 1)) "_law_whole" [.int t] H (.bool true) := ca_lwhole (d := d) rfl
  unfold dueD at q
  refine w_if (decide (t < 0) || decide (t > m - (if decide (y = 0) then 1 else 0))) (ev_or (p := false) (a := .not (.call "_law_whole" (.cons (.var 1) .nil))) (fun _ _ q => h _ _ q) fun _ => ev_or (ev_cmp (ev_var rfl) (ec_one ev_int cm_lt)) fun _ => ev_cmp (ev_var rfl) (ec_one (ev_sb (ev_var rfl) (ev_intOf (ev_cmp (ev_var rfl) (ec_one ev_int cm_eq)))) cm_gt)) (fun e => ?_) fun e => kn_nil (w_if ((decide (y = 1) && decide (t > o)) || (decide (y = 2) && decide (o > t))) (ev_or (ev_and (ev_cmp (ev_var rfl) (ec_one ev_int cm_eq)) fun _ => ev_cmp (ev_var rfl) (ec_one (ev_var rfl) cm_gt)) fun _ => ev_and (ev_cmp (ev_var rfl) (ec_one ev_int cm_eq)) fun _ => ev_cmp (ev_var rfl) (ec_one (ev_var rfl) cm_gt)) (fun e2 => ?_) fun e2 => kn_nil ?_)
  · rw [e, Bool.true_or, if_pos rfl] at q
    exact r2 (ev_li l_place) rfl q
  · rw [e, e2, Bool.or_true, if_pos rfl] at q
    exact r2 (ev_li l_place) rfl q
  · rw [e, e2, Bool.or_false, if_neg (by decide)] at q
    exact r1 (ev_li l_good) rfl q
theorem w_place {v0 v1 v2 v3 : V} (h : Cr (C9 ad (d + 7)) "_law_asked" [v0, v1, v2, v3] H "NoPlace") : Ca (C9 ad (d + 8)) "_law_word_of" [v0, v1, v2, v3] H (lst place9) := by
  have := word_of_bad (c := "NoPlace") (by decide) (by decide) h
  rw [wordS_place] at this; exact this
/-- the word is the one that is due -/
noncomputable def Same (ad d : Nat) (H : AH) (ps : List (Nat × Nat)) (y : Int) (v : V) (o : Nat) : Prop := ∃ s, Ca (C9 ad (d + 8)) "_law_word_of" [.int y, bk9 ps, v, .int o] H (lst s) ∧ Ca (C9 ad (d + 8)) "_law_place_due" [.int y, v, .int o, .int ((2 * ps.length : Nat) : Int)] H (lst s)
theorem same_bad {y : Int} {v : V} {o : Nat} (h : ∀ (Q : V → Prop) (X : String → Prop), X "NoPlace" → (C9 ad (d + 6)).call (askF y) (askA y (bk9 ps) v (.int o)) H Q X) (h2 : Ca (C9 ad (d + 8)) "_law_place_due" [.int y, v, .int o, .int ((2 * ps.length : Nat) : Int)] H (lst place9)) : Same ad d H ps y v o := ⟨place9, w_place fun Q X q => asked_of fun Q' _ => h Q' X q, h2⟩
theorem same_good {y : Int} {v : V} {o : Nat} (h : Any (C9 ad (d + 6)) (askF y) (askA y (bk9 ps) v (.int o)) H) (h2 : Ca (C9 ad (d + 8)) "_law_place_due" [.int y, v, .int o, .int ((2 * ps.length : Nat) : Int)] H (lst good9)) : Same ad d H ps y v o := ⟨good9, word_of_good fun Q X q => asked_of fun Q' hq => h Q' X fun w hw => hq w w (hw H H) (q w hw), h2⟩
theorem due_is {y t o m : Int} {b : Bool} (h : dueD y t o m = b) : Ca (C9 ad (d + 8)) "_law_place_due" [.int y, .int t, .int o, .int m] H (lst (if b then place9 else good9)) := h ▸ due_int (d := d + 6)
theorem due0 {t o : Int} {n : Nat} : dueD 0 t o n = !inR (.int t) n := by
  rw [Bool.eq_iff_iff]; simp [inR, dueD]; omega
theorem due1 {t o : Int} {n : Nat} (ho : o ≤ n) : dueD 1 t o n = !inC (.int t) (.int o) n := by
  rw [Bool.eq_iff_iff]; simp [inC, dueD]; omega
theorem due2 {t o : Int} {n : Nat} (ho : 0 ≤ o) : dueD 2 t o n = !inC (.int o) (.int t) n := by
  rw [Bool.eq_iff_iff]; simp [inC, dueD]; omega
theorem same_of {y : Int} {v : V} {o : Nat} (hb : Ok9 ps) (hy : y = 0 ∨ y = 1 ∨ y = 2) (hp : pl v = true) (ho : o ≤ 2 * ps.length) : Same ad d H ps y v o := by
  cases hv : isWh v with
  | false =>
    have h1 : inR v (2 * ps.length) = false := by cases v <;> first | rfl | cases hv
    have h2 : ∀ u, inC v u (2 * ps.length) = false := fun u => by cases v <;> first | rfl | cases hv
    have h3 : ∀ i, inC (.int i) v (2 * ps.length) = false := fun i => by cases v <;> first | rfl | cases hv
    refine same_bad ?_ (due_no (d := d + 6) hp hv)
    rcases hy with rfl | rfl | rfl
    · exact fun Q X q => sign_bad hb hp h1 Q X q
    · exact fun Q X q => cut_bad hb hp rfl (h2 _) Q X q
    · exact fun Q X q => cut_bad hb rfl hp (h3 _) Q X q
  | true =>
    obtain ⟨t, rfl⟩ := wh_int hv
    rcases hy with rfl | rfl | rfl
    · cases e : inR (.int t) (2 * ps.length) with
      | true => exact same_good (sign_good hb e) (due_is (b := false) ((due0).trans (congrArg (!·) e)))
      | false => exact same_bad (fun Q X q => sign_bad hb rfl e Q X q) (due_is (b := true) ((due0).trans (congrArg (!·) e)))
    · cases e : inC (.int t) (.int o) (2 * ps.length) with
      | true => exact same_good (cut_good hb e) (due_is (b := false) ((due1 (Int.ofNat_le.mpr ho)).trans (congrArg (!·) e)))
      | false => exact same_bad (fun Q X q => cut_bad hb rfl rfl e Q X q) (due_is (b := true) ((due1 (Int.ofNat_le.mpr ho)).trans (congrArg (!·) e)))
    · cases e : inC (.int o) (.int t) (2 * ps.length) with
      | true => exact same_good (cut_good hb e) (due_is (b := false) ((due2 (Int.natCast_nonneg o)).trans (congrArg (!·) e)))
      | false => exact same_bad (fun Q X q => cut_bad hb rfl rfl e Q X q) (due_is (b := true) ((due2 (Int.natCast_nonneg o)).trans (congrArg (!·) e)))
/-! words and texts -/
theorem word_good {y : Int} {l : List Nat} {o : V} (hb : Ok9 ps) (hy : y = 3 ∨ y = 4) (h : isTx (lst l) = true) (hl : Wd l) : Ca (C9 ad (d + 8)) "_law_word_of" [.int y, bk9 ps, lst l, o] H (lst good9) := word_of_good fun Q X q => asked_of fun Q' hq => by
  rcases hy with rfl | rfl
  · exact often_good hb h hl Q' X fun w hw => hq w w (hw H H) (q w hw)
  · exact first_good hb h hl Q' X fun w hw => hq w w (hw H H) (q w hw)
theorem word_bad {y : Int} {v o : V} (hb : Ok9 ps) (hy : y = 3 ∨ y = 4) (hp : pl v = true) (h : isTx v = false ∨ ∃ l : List Nat, v = lst l ∧ isTx v = true ∧ ¬ Wd l) : Ca (C9 ad (d + 8)) "_law_word_of" [.int y, bk9 ps, v, o] H (lst word9) := by
  have := word_of_bad (ad := ad) (d := d) (H := H) (c := "NoWord") (v0 := .int y) (v1 := bk9 ps) (v2 := v) (v3 := o) (by decide) (by decide) fun Q X q => asked_of fun Q' _ => by
    rcases hy with rfl | rfl
    · exact often_bad hb hp h Q' X q
    · exact first_bad hb hp h Q' X q
  rw [wordS_word] at this; exact this
theorem text_good {l : List Nat} {v1 o : V} (h : isTx (lst l) = true) (hl : l.length ≤ 1000) : Ca (C9 ad (d + 8)) "_law_word_of" [.int 5, v1, lst l, o] H (lst good9) := word_of_good fun Q X q => asked_of fun Q' hq => made_good (d := d + 4) h hl Q' X fun w hw => hq w w (hw H H) (q w hw)
theorem text_bad {v v1 o : V} (hp : pl v = true) (h : isTx v = false ∨ ∃ l : List Nat, v = lst l ∧ isTx v = true ∧ 1000 < l.length) : Ca (C9 ad (d + 8)) "_law_word_of" [.int 5, v1, v, o] H (lst text9) := by
  have := word_of_bad (ad := ad) (d := d) (H := H) (c := "NoText") (v0 := .int 5) (v1 := v1) (v2 := v) (v3 := o) (by decide) (by decide) fun Q X q => asked_of fun Q' _ => made_bad (d := d + 4) hp h Q' X q
  rw [wordS_text] at this; exact this
end
end Lib
end

section
set_option autoImplicit false
set_option linter.unusedSimpArgs false
set_option linter.unusedVariables false
namespace Lib
open PySem Mine
section
variable {ad d : Nat} {H : AH} {ns : List Int}
theorem cell_of {k : Nat} (Q : V → Prop) (X : String → Prop) (q : ∀ i : Int, Q (.int i)) : (C9 ad (d + 1)).call "_law_cell_at" [.lst (ns.map V.int), .int k] H Q X := call_of (fn := L09.F_law_cell_at) rfl rfl (by decide) (w_if (decide ((k : Int) < ns.length)) (ev_cmp (ev_var rfl) (ec_one (ev_len (n := ns.length) (ev_var rfl) (by show some _ = _; rw [List.length_map])) cm_lt)) (fun e => by
  have hk : k < ns.length := by simpa using e
  exact r2 (w := .int ns[k]) (ev_sub (ev_var rfl) (ev_var rfl) (sb_lst (by rw [List.getElem?_map, List.getElem?_eq_getElem hk]; rfl))) rfl (q _)) fun _ => kn_nil (r1 ev_int rfl (q 0)))
theorem sign_cat : Str.ofString " !\"#$&'()*+,-./0123456789:;<=>?@ABCDEFGHIJKLMNOPQRSTUVWXYZ[\\]^_`" ++ Str.ofString "abcdefghijklmnopqrstuvwxyz{|}~\n" = SIGNS := by decide +kernel
theorem sg_len : SIGNS.length = 95 ∧ SG.length = 95 := by decide +kernel
noncomputable def isSg (v : V) : Prop := ∃ c ∈ SG, v = lst [c]
theorem sign_of {i : Int} (Q : V → Prop) (X : String → Prop) (q : ∀ v, isSg v → Q v) : (C9 ad (d + 1)).call "_law_sign_by" [.int i] H Q X := by
  have hf := fm i (b := 95) (by omega)
  obtain ⟨k, hk⟩ : ∃ k : Nat, i.fmod 95 = k := ⟨(i.fmod 95).toNat, by omega⟩
  have hk2 : k < SG.length := by rw [sg_len.2]; omega
  refine call_of (fn := L09.F_law_sign_by) rfl rfl (by decide) (w_asg ev_str rfl (w_asg (w := .str SIGNS) (sign_cat ▸ ev_cat (ev_var rfl) ev_str (by decide +kernel)) rfl (r1 (w := lst [SG[k]]) (ev_sub (k := .int k) (ev_var rfl) (hk ▸ ev_mod (ev_var rfl) ev_int (by omega)) fun Q q => ?_) rfl (q _ ⟨_, List.getElem_mem hk2, rfl⟩))))
  show (match idx SIGNS.length (k : Int) with
    | some n => _
    | none => False)
  rw [idx_nat (show k < SIGNS.length by rw [sg_len.1, ← sg_len.2]; exact hk2)]
  show (match SG[k]? with
    | some c => Q (.str ⟨#[c]⟩)
    | none => False)
  rw [List.getElem?_eq_getElem hk2]; exact q
theorem evq_compR {C : Cx} {ρ : List (Option V)} {B : AH} {elt e : E} {i : Nat} {P : V → Prop} (he : EvQ C ⟨ρ, H, B⟩ e (fun u => ∃ n : Nat, n ≤ 40 ∧ u = .int n)) (hi : i < ρ.length) (hel : ∀ k : Nat, EvQ C ⟨ρ.set i (some (.int k)), H, B⟩ elt P) : EvQ C ⟨ρ, H, B⟩ (.comp elt (.var i) (.range1 e)) (fun w => ∃ l, w = .lst l ∧ l.length ≤ 40 ∧ ∀ v ∈ l, P v) := fun Q X q => he _ _ (by
  rintro u ⟨n, hn, rfl⟩
  have hu : (upL 0 (n : Int)).length = n := by unfold upL; rw [List.length_map, List.length_range]; omega
  refine ⟨⟨by omega, by omega⟩, by rw [hu]; exact sz_ok (by omega), ?_⟩
  have key : ∀ (r : List Nat) (K : List V → Prop), (∀ l : List V, l.length = r.length → (∀ v ∈ l, P v) → K l) → compL (fun x k => match bindT (.var i) x ρ with
      | some ρ' => WE C elt ⟨ρ', H, B⟩ (fun y => k (some y)) (fun _ => False)
      | none => False) (r.map fun (k : Nat) => V.int (0 + k)) K := by
    intro r
    induction r with
    | nil => exact fun K hK => hK [] rfl nofun
    | cons k r ih =>
      intro K hK
      show (match bindT (.var i) (.int (0 + k)) ρ with
        | some ρ' => WE C elt ⟨ρ', H, B⟩ _ (fun _ => False)
        | none => False)
      have : bindT (.var i) (.int (0 + k)) ρ = some (ρ.set i (some (.int k))) := by show putV _ _ _ = _; unfold putV; rw [if_pos hi, Int.zero_add]
      rw [this]
      refine hel k _ _ fun y hy => ih _ fun l h1 h2 => hK (y :: l) (by rw [List.length_cons, h1, List.length_cons]) fun v hv => ?_
      rcases List.mem_cons.mp hv with rfl | hv
      · exact hy
      · exact h2 v hv
  exact key _ _ fun l h1 h2 => q _ ⟨l, rfl, by rw [h1, List.length_range]; omega, h2⟩)
theorem all_sg : ∀ {l : List V}, (∀ v ∈ l, isSg v) → ∃ cs : List Nat, l = cs.map (fun c => lst [c]) ∧ ∀ c ∈ cs, c ∈ SG
  | [], _ => ⟨[], rfl, nofun⟩
  | v :: l, h => by
    obtain ⟨c, hc, rfl⟩ := h v (List.mem_cons_self ..)
    obtain ⟨cs, rfl, h2⟩ := all_sg fun u hu => h u (List.mem_cons_of_mem _ hu)
    exact ⟨c :: cs, rfl, fun x hx => by rcases List.mem_cons.mp hx with rfl | hx; exact hc; exact h2 x hx⟩
theorem upL_range (m : Nat) : upL 0 (m : Int) = row9 m := by
  unfold upL row9
  rw [show ((m : Int) - 0).toNat = m from by omega]
  exact List.map_congr_left fun k _ => by rw [Int.zero_add]
noncomputable def ps9 (cs : List Nat) : List (Nat × Nat) := (List.range (cs.length / 2)).map fun k => (cs.getD (2 * k) 0, cs.getD (2 * k + 1) 0)
theorem ps9_len (cs : List Nat) : (ps9 cs).length = cs.length / 2 := by rw [ps9, List.length_map, List.length_range]
theorem ps9_ok {cs : List Nat} (h : ∀ c ∈ cs, c ∈ SG) (hl : cs.length ≤ 40) : Ok9 (ps9 cs) := by
  refine ⟨fun p hp => ?_, by rw [ps9_len]; omega⟩
  obtain ⟨k, hk, rfl⟩ := List.mem_map.mp hp
  have hk := List.mem_range.mp hk
  have g : ∀ j, j < cs.length → cs.getD j 0 ∈ SG := fun j hj => by rw [List.getD_eq_getElem?_getD, List.getElem?_eq_getElem hj]; exact h _ (List.getElem_mem hj)
  exact ⟨g _ (by omega), g _ (by omega)⟩
theorem ofn9 {C : Cx} {st : St} {e : E} {i : Int} {k : Nat} (h : Ev C st e (.int i)) (hk : i = k) : Ev C st e (.int k) := hk ▸ h
theorem ev_book {v0 : V} {cs : List Nat} {r : List (Option V)} (hr : r.length = 10) (h11 : ∀ x, (some v0 :: some (.lst (cs.map fun c => lst [c])) :: r.set 9 x)[11]? = some x) (hl : cs.length ≤ 40) : Ev (C9 ad d) ⟨some v0 :: some (.lst (cs.map fun c => lst [c])) :: r, H, H⟩ (.tup (.cons (.comp (.tup (.cons (.sub (.var 1) (.bin .mul (.int 2) (.var 11))) (.cons (.sub (.var 1) (.bin .add (.bin .mul (.int 2) (.var 11)) (.int 1))) .nil))) (.var 11) (.range1 (.bin .fdiv (.len (.var 1)) (.int 2)))) (.cons (.listOf (.range1 (.bin .fdiv (.len (.var 1)) (.int 2)))) .nil))) (bk9 (ps9 cs)) := by
  have el : Ev (C9 ad d) ⟨some v0 :: some (.lst (cs.map fun c => lst [c])) :: r, H, H⟩ (.bin .fdiv (.len (.var 1)) (.int 2)) (.int ((cs.length / 2 : Nat) : Int)) := ofn9 (ev_fdiv (ev_len (n := cs.length) (ev_var rfl) (by show some _ = _; rw [List.length_map])) ev_int (by omega)) (by rw [Int.fdiv_eq_ediv_of_nonneg _ (by omega)]; omega)
  have ei := ei_range1 el ⟨by omega, by omega⟩
  rw [upL_range] at ei
  have ec := ev_comp (C := C9 ad d) (elt := .tup (.cons (.sub (.var 1) (.bin .mul (.int 2) (.var 11))) (.cons (.sub (.var 1) (.bin .add (.bin .mul (.int 2) (.var 11)) (.int 1))) .nil))) (i := 11) (v := fun (k : Nat) => V.int k) (g := fun k => pr9 (cs.getD (2 * k) 0, cs.getD (2 * k + 1) 0)) (r := List.range (cs.length / 2)) ei (by rw [List.length_range]; exact sz_ok (by omega)) (by simp [hr]) fun k hk => by
    have hk := List.mem_range.mp hk
    have g : ∀ j, j < cs.length → Sb H (.lst (cs.map fun c => lst [c])) (.int j) (lst [cs.getD j 0]) := fun j hj => sb_lst (by rw [List.getElem?_map, List.getElem?_eq_getElem hj, List.getD_eq_getElem?_getD, List.getElem?_eq_getElem hj]; rfl)
    have e11 : Ev (C9 ad d) ⟨(some v0 :: some (.lst (cs.map fun c => lst [c])) :: r).set 11 (some (.int k)), H, H⟩ (.bin .mul (.int 2) (.var 11)) (.int ((2 * k : Nat) : Int)) := ofn9 (ev_mul ev_int (ev_var (h11 _)) (.inl (by decide))) (by omega)
    exact ev_tup (evs_cons (ev_sub (ev_var rfl) e11 (g _ (by omega))) (evs_cons (ev_sub (ev_var rfl) (ofn9 (ev_add e11 ev_int) (by omega)) (g _ (by omega))) evs_nil)) rfl
  have eb : bk9 (ps9 cs) = .tup [.lst ((List.range (cs.length / 2)).map fun k => pr9 (cs.getD (2 * k) 0, cs.getD (2 * k + 1) 0)), .lst (row9 (cs.length / 2))] := by
    unfold bk9
    rw [ps9_len]
    unfold ps9
    rw [List.map_map]; rfl
  rw [eb]
  exact ev_tup (evs_cons ec (evs_cons (ev_listOf ei (by rw [row9, List.length_map, List.length_range]; exact sz_ok (by omega))) evs_nil)) rfl
theorem pick9 {C : Cx} {ρ : List (Option V)} {B : AH} {i j m : Nat} {L : List V} {c : Int} (hi : ρ[i]? = some (some (.lst L))) (hj : ρ[j]? = some (some (.int c))) (hl : L.length = m) (hm : 0 < m) : ∃ w ∈ L, Ev C ⟨ρ, H, B⟩ (.sub (.var i) (.bin .mod (.var j) (.int m))) w := by
  have hf := fm c (b := (m : Int)) (by omega)
  obtain ⟨k, hk⟩ : ∃ k : Nat, c.fmod m = k := ⟨(c.fmod m).toNat, by omega⟩
  have hk2 : k < L.length := by omega
  exact ⟨L[k], List.getElem_mem hk2, ev_sub (k := .int k) (ev_var hi) (hk ▸ ev_mod (ev_var hj) ev_int (by omega)) (sb_lst (List.getElem?_eq_getElem hk2))⟩
theorem cm_same {s : List Nat} : Cm H .eq (lst s) (lst s) true := fun Q q => (show eqV H (.str _) (.str _) Q from by rw [eqV_str, decide_eq_true rfl]; exact q)
end
end Lib
end

section
set_option autoImplicit false
set_option linter.unusedSimpArgs false
set_option linter.unusedVariables false
namespace Lib
open PySem Mine
/-! law 09: the law -/
noncomputable def S9 (v0 v1 v2 v3 v4 v5 : V) (x6 x7 x8 x9 x10 : Option V) : List (Option V) := [some v0, some v1, some v2, some v3, some v4, some v5, x6, x7, x8, x9, x10, none]
theorem isTx_of {l : List Nat} (h : ∀ c ∈ l, c ∈ SG) : isTx (lst l) = true := by
  show (l.all fun c => hasSub SIGNS ⟨#[c]⟩) = true
  rw [List.all_eq_true]
  exact fun c hc => has_sign c (h c hc)
theorem rep_in {n : Nat} {l : List Nat} {c : Nat} (h : c ∈ repL n l) : c ∈ l := by
  unfold repL at h
  obtain ⟨x, hx, hc⟩ := List.mem_flatten.mp h
  rw [List.eq_of_mem_replicate hx] at hc; exact hc
theorem rep_len {n : Nat} {l : List Nat} : (repL n l).length = n * l.length := by unfold repL; rw [List.length_flatten, List.map_replicate, List.sum_replicate_nat]
theorem ev_mulW {C : Cx} {st : St} {a b : E} {l : List Nat} {n : Nat} (ha : Ev C st a (lst l)) (hb : Ev C st b (.int n)) (h : n ≤ 1000) (h2 : l.length ≤ 10) : Ev C st (.bin .mul a b) (lst (repL n l)) := ev_bin ha hb fun _ q => ⟨by omega, by omega, by
  have : (⟨l.toArray⟩ : Str).length = l.length := by simp [Str.length]
  rw [this]
  have := Nat.mul_le_mul h2 h
  exact Nat.le_trans this (by decide), q⟩
theorem ev_pow40 {C : Cx} {st : St} : Ev C st (.bin .pow (.int 10) (.int 40)) (.int (10 ^ 40)) := ev_bin ev_int ev_int fun _ q => ⟨rfl, .inr rfl, q⟩
theorem g97 : ∀ c ∈ [97, 98, 99, 10], c ∈ SG := by decide +kernel
/-- a row of things that all have a property -/
noncomputable def EvP (P : V → Prop) (C : Cx) (st : St) (es : Es) (n : Nat) : Prop := ∃ vs : List V, vs.length = n ∧ (∀ w ∈ vs, P w) ∧ Evs C st es vs
section
variable {P : V → Prop} {C : Cx} {st : St} {e : E} {es : Es} {n : Nat} {w : V} {ρ : List (Option V)} {H B : AH} {b : Bl} {Q : Fl → St → Prop} {X : String → St → Prop}
theorem ep_nil : EvP P C st .nil 0 := ⟨[], rfl, nofun, evs_nil⟩
theorem ep_cons (h : Ev C st e w) (hp : P w) (r : EvP P C st es n) : EvP P C st (.cons e es) (n + 1) := let ⟨vs, h1, h2, h3⟩ := r; ⟨w :: vs, congrArg (· + 1) h1, List.forall_mem_cons.mpr ⟨hp, h2⟩, evs_cons h h3⟩
theorem w_listP {i : Nat} (h : EvP P C ⟨ρ, H, B⟩ es n) (hn : Nat.ble n 20 = true) (hi : Nat.blt i ρ.length = true) (hb : ∀ L : List V, L.length = n → (∀ w ∈ L, P w) → WB C b ⟨ρ.set i (some (.lst L)), H, B⟩ Q X) : WB C (.cons (.assign (.var i) (.list es)) b) ⟨ρ, H, B⟩ Q X := let ⟨L, h1, h2, h3⟩ := h; w_asg (fun Q X q => h3 _ _ ⟨h1 ▸ Nat.le_trans (Nat.le_of_ble_eq_true hn) (by decide), q⟩) hi (hb L h1 h2)
end
section
variable {ad : Nat} {H : AH} {ps : List (Nat × Nat)} {v0 v1 : V} {y c : Int} {Q : V → Prop} {X : String → St → Prop}
noncomputable abbrev K9 (ad : Nat) : Cx := C9 ad 29
noncomputable def wayA : Bl := (.cons (.assign (.var 10) (.bin .mod (.bin .fdiv (.var 5) (.int 12)) (.bin .add (.var 3) (.int 1))))
    (.cons (.assign (.var 6) (.list (.cons (.neg (.int 1)) (.cons (.var 3) (.cons (.bin .add (.var 3) (.int 1)) (.cons (.bin .sub (.var 3) (.int 1)) (.cons (.bin .pow (.int 10) (.int 40)) (.cons (.bool true) (.cons (.bool false) (.cons .none (.cons (.str (Str.ofString "0")) (.cons (.tup (.cons (.int 0) .nil)) (.cons (.list (.cons (.int 1) .nil)) (.cons (.bin .mod (.bin .fdiv (.var 5) (.int 12)) (.bin .add (.var 3) (.int 2))) .nil))))))))))))))
    (.cons (.assign (.var 8) (.sub (.var 6) (.bin .mod (.var 5) (.int 12))))
    (.cons (.ret (.cmp (.call "_law_word_of" (.cons (.var 4) (.cons (.var 2) (.cons (.var 8) (.cons (.var 10) .nil))))) (.one .eq (.call "_law_place_due" (.cons (.var 4) (.cons (.var 8) (.cons (.var 10) (.cons (.var 3) .nil)))))))) .nil))))
theorem way_A {r : Bl} (hb : Ok9 ps) (hy : y = 0 ∨ y = 1 ∨ y = 2) (q : Q (.bool true)) : WB (K9 ad) wayA ⟨S9 v0 v1 (bk9 ps) (.int ((2 * ps.length : Nat) : Int)) (.int y) (.int c) none none none none none, H, H⟩ (Kn (K9 ad) r (PK H Q) X) X := by
  have hf := fm (c.fdiv 12) (b := ((2 * ps.length : Nat) : Int) + 1) (by omega)
  obtain ⟨o, ho⟩ : ∃ o : Nat, (c.fdiv 12).fmod (((2 * ps.length : Nat) : Int) + 1) = o := ⟨((c.fdiv 12).fmod (((2 * ps.length : Nat) : Int) + 1)).toNat, by omega⟩
  refine w_asg (w := .int o) (ho ▸ ev_mod (ev_fdiv (ev_var rfl) ev_int (by omega)) (ev_add (ev_var rfl) ev_int) (by omega)) rfl ?_
  refine w_listP (P := fun w => pl w = true) (n := 12) (ep_cons (ev_neg ev_int) rfl (ep_cons (ev_var rfl) rfl (ep_cons (ev_add (ev_var rfl) ev_int) rfl (ep_cons (ev_sb (ev_var rfl) ev_int) rfl (ep_cons ev_pow40 rfl (ep_cons ev_bool rfl (ep_cons ev_bool rfl (ep_cons ev_none rfl (ep_cons ev_str rfl (ep_cons (ev_tup (evs_cons ev_int evs_nil) rfl) rfl (ep_cons (ev_list (evs_cons ev_int evs_nil) rfl) rfl (ep_cons (ev_mod (i := c.fdiv 12) (j := ((2 * ps.length : Nat) : Int) + 2) (ev_fdiv (i := c) (j := 12) (ev_var rfl) ev_int (by decide)) (ev_add (ev_var rfl) ev_int) (by omega)) rfl ep_nil)))))))))))) rfl rfl fun L l1 l2 => ?_
  obtain ⟨w, hw, ew⟩ := pick9 (H := H) (C := K9 ad) (ρ := S9 v0 v1 (bk9 ps) (.int ((2 * ps.length : Nat) : Int)) (.int y) (.int c) (some (.lst L)) none none none (some (.int o))) (B := H) (i := 6) (j := 5) (m := 12) rfl rfl l1 (by omega)
  refine w_asg ew rfl ?_
  obtain ⟨s, s1, s2⟩ := same_of (ad := ad) (d := 21) (H := H) hb hy (l2 w hw) (show o ≤ 2 * ps.length by omega)
  exact r2 (ev_cmp (ev_call (evs_cons (ev_var rfl) (evs_cons (ev_var rfl) (evs_cons (ev_var rfl) (evs_cons (ev_var rfl) evs_nil)))) s1) (ec_one (ev_call (evs_cons (ev_var rfl) (evs_cons (ev_var rfl) (evs_cons (ev_var rfl) (evs_cons (ev_var rfl) evs_nil)))) s2) cm_same)) rfl q
/-- a text of good signs, or no text at all -/
noncomputable def TN (w : V) : Prop := (∃ l : List Nat, w = lst l ∧ (∀ c ∈ l, c ∈ SG)) ∨ (pl w = true ∧ isTx w = false ∧ ∀ H : AH, isT H .str w = some false)
theorem ev_word {w2 u : V} {s : List Nat} {x6 x7 x10 : Option V} (hw : Ca (K9 ad) "_law_word_of" [.int y, w2, u, .int 0] H (lst s)) : Ev (K9 ad) ⟨S9 v0 v1 w2 (.int ((2 * ps.length : Nat) : Int)) (.int y) (.int c) x6 x7 (some u) (some (lst s)) x10, H, H⟩ (.cmp (.call "_law_word_of" (.cons (.var 4) (.cons (.var 2) (.cons (.var 8) (.cons (.int 0) .nil))))) (.one .eq (.var 9))) (.bool true) :=
  ev_cmp (ev_call (evs_cons (ev_var rfl) (evs_cons (ev_var rfl) (evs_cons (ev_var rfl) (evs_cons ev_int evs_nil)))) hw) (ec_one (ev_var rfl) cm_same)
theorem l_a : Str.ofString "a" = ⟨[97].toArray⟩ := by decide +kernel
theorem l_b : Str.ofString "b" = ⟨[98].toArray⟩ := by decide +kernel
theorem l_c : Str.ofString "c" = ⟨[99].toArray⟩ := by decide +kernel
theorem l_ab : Str.ofString "ab" = ⟨[97, 98].toArray⟩ := by decide +kernel
theorem l_n : Str.ofString "\n" = ⟨[10].toArray⟩ := by decide +kernel
theorem l_e9 : Str.ofString "" = ⟨([] : List Nat).toArray⟩ := by decide +kernel
theorem in4 {l : List Nat} (h : l.all (fun c => [97, 98, 99, 10].contains c) = true) : ∀ c ∈ l, c ∈ SG := fun c hc => g97 c (List.contains_iff_mem.mp (List.all_eq_true.mp h c hc))
theorem in_rep {n : Nat} {l : List Nat} (h : ∀ c ∈ l, c ∈ SG) : ∀ c ∈ repL n l, c ∈ SG := fun c hc => h c (rep_in hc)
theorem tn_no {w : V} (h1 : pl w = true) (h2 : isTx w = false) (h3 : ∀ H : AH, isT H .str w = some false) : TN w := .inr ⟨h1, h2, h3⟩
theorem tn_in {l : List Nat} (h : ∀ c ∈ l, c ∈ SG) : TN (lst l) := .inl ⟨l, rfl, h⟩
theorem tn_rep {n : Nat} {l : List Nat} (h : l.all (fun c => [97, 98, 99, 10].contains c) = true) : TN (lst (repL n l)) := tn_in (in_rep (in4 h))
noncomputable def wayB : Bl := (.cons (.assign (.var 6) (.list (.cons (.str (Str.ofString "")) (.cons (.bin .mul (.str (Str.ofString "a")) (.int 200)) (.cons (.bin .mul (.str (Str.ofString "a")) (.int 201)) (.cons .none (.cons (.int 5) (.cons (.list (.cons (.str (Str.ofString "a")) .nil)) (.cons (.tup (.cons (.str (Str.ofString "a")) .nil)) (.cons (.bool true) (.cons (.str (Str.ofString "b")) (.cons (.bin .mul (.str (Str.ofString "ab")) (.int 100)) (.cons (.bin .mul (.str (Str.ofString "ab")) (.int 101)) (.cons (.str (Str.ofString "\n")) .nil))))))))))))))
    (.cons (.assign (.var 8) (.sub (.var 6) (.bin .mod (.var 5) (.int 12))))
    (.cons (.assign (.var 9) (.str (Str.ofString "word value")))
    (.cons (.ite (.and (.isinst (.var 8) .str) (.cmp (.int 1) (.more .le (.len (.var 8)) (.one .le (.int 200))))) (.cons (.assign (.var 9) (.str (Str.ofString "good"))) .nil) .nil)
    (.cons (.ret (.cmp (.call "_law_word_of" (.cons (.var 4) (.cons (.var 2) (.cons (.var 8) (.cons (.int 0) .nil))))) (.one .eq (.var 9)))) .nil)))))
theorem way_B {r : Bl} (hb : Ok9 ps) (hy : y = 3 ∨ y = 4) (q : Q (.bool true)) : WB (K9 ad) wayB ⟨S9 v0 v1 (bk9 ps) (.int ((2 * ps.length : Nat) : Int)) (.int y) (.int c) none none none none none, H, H⟩ (Kn (K9 ad) r (PK H Q) X) X := by
  refine w_listP (P := TN) (n := 12) (ep_cons (ev_li l_e9) (tn_in (in4 rfl)) (ep_cons (ev_mulW (ev_li l_a) ev_int (by decide) (by decide)) (tn_rep rfl) (ep_cons (ev_mulW (ev_li l_a) ev_int (by decide) (by decide)) (tn_rep rfl) (ep_cons ev_none (tn_no rfl rfl fun _ => rfl) (ep_cons ev_int (tn_no rfl rfl fun _ => rfl) (ep_cons (ev_list (evs_cons (ev_li l_a) evs_nil) rfl) (tn_no rfl rfl fun _ => rfl) (ep_cons (ev_tup (evs_cons (ev_li l_a) evs_nil) rfl) (tn_no rfl rfl fun _ => rfl) (ep_cons ev_bool (tn_no rfl rfl fun _ => rfl) (ep_cons (ev_li l_b) (tn_in (in4 rfl)) (ep_cons (ev_mulW (ev_li l_ab) ev_int (by decide) (by decide)) (tn_rep rfl) (ep_cons (ev_mulW (ev_li l_ab) ev_int (by decide) (by decide)) (tn_rep rfl) (ep_cons (ev_li l_n) (tn_in (in4 rfl)) ep_nil)))))))))))) rfl rfl fun L hl tn => ?_
  obtain ⟨w, hw, ew⟩ := pick9 (H := H) (C := K9 ad) (ρ := S9 v0 v1 (bk9 ps) (.int ((2 * ps.length : Nat) : Int)) (.int y) (.int c) (some (.lst L)) none none none none) (B := H) (i := 6) (j := 5) (m := 12) rfl rfl hl (by omega)
  refine w_asg ew rfl (w_asg (ev_li l_word) rfl ?_)
  rcases tn w hw with ⟨l, rfl, hs⟩ | ⟨h1, h2, h3⟩
  · refine w_if (true && (decide ((1 : Int) ≤ l.length) && decide ((l.length : Int) ≤ 200))) (ev_and (ev_isi (ev_var rfl) rfl) fun _ => ev_cmp (a := .int 1) ev_int (ec_more (ev_lenW rfl) cm_le fun _ => ec_one ev_int cm_le)) (fun e => w_asg (ev_li l_good) rfl (kn_nil ?_)) fun e => kn_nil ?_
    · have hwd : Wd l := by simp at e; exact ⟨by omega, by omega⟩
      exact r2 (ev_word (word_good (d := 21) hb hy (isTx_of hs) hwd)) rfl q
    · have hwd : ¬ Wd l := fun h => by have := h.1; have := h.2; simp at e; omega
      exact r2 (ev_word (word_bad (d := 21) hb hy rfl (.inr ⟨l, rfl, isTx_of hs, hwd⟩))) rfl q
  · exact w_iff (ev_and (p := false) (q := true) (ev_isi (ev_var rfl) (h3 _)) nofun) (kn_nil (r2 (ev_word (word_bad (d := 21) hb hy h1 (.inl h2))) rfl q))
noncomputable def wayC : Bl := (.cons (.assign (.var 6) (.list (.cons .none (.cons (.int 5) (.cons (.list (.cons (.str (Str.ofString "a")) .nil)) (.cons (.tup (.cons (.str (Str.ofString "a")) (.cons (.str (Str.ofString "b")) .nil))) (.cons (.bool true) (.cons (.str (Str.ofString "")) (.cons (.str (Str.ofString "a")) .nil)))))))))
  (.cons (.ite (.cmp (.bin .mod (.var 5) (.int 14)) (.one .lt (.int 7))) (.cons (.assign (.var 8) (.sub (.var 6) (.bin .mod (.var 5) (.int 14))))
    (.cons (.assign (.var 9) (.sub (.list (.cons (.str (Str.ofString "text value")) (.cons (.str (Str.ofString "good")) .nil))) (.intOf (.isinst (.var 8) .str))))
    (.cons (.ret (.cmp (.call "_law_word_of" (.cons (.var 4) (.cons (.var 2) (.cons (.var 8) (.cons (.int 0) .nil))))) (.one .eq (.var 9))))
    .nil))) .nil)
  (.cons (.assign (.var 7) (.bin .add (.int 995) (.bin .mod (.bin .fdiv (.var 5) (.int 14)) (.int 11))))
  (.cons (.assign (.var 8) (.bin .add (.bin .mul (.str (Str.ofString "ab")) (.bin .fdiv (.var 7) (.int 2))) (.bin .mul (.str (Str.ofString "c")) (.bin .mod (.var 7) (.int 2)))))
  (.cons (.assign (.var 9) (.sub (.list (.cons (.str (Str.ofString "good")) (.cons (.str (Str.ofString "text value")) .nil))) (.intOf (.cmp (.var 7) (.one .gt (.int 1000))))))
  (.cons (.ret (.cmp (.call "_law_word_of" (.cons (.var 4) (.cons (.var 2) (.cons (.var 8) (.cons (.int 0) .nil))))) (.one .eq (.var 9))))
  .nil))))))
theorem ev_two9 {C : Cx} {st : St} {e1 e2 e : E} {a b : V} {t : Bool} (h1 : Ev C st e1 a) (h2 : Ev C st e2 b) (h : Ev C st e (.bool t)) : Ev C st (.sub (.list (.cons e1 (.cons e2 .nil))) (.intOf e)) (if t then b else a) := by
  cases t
  · exact ev_sub (ev_list (evs_cons h1 (evs_cons h2 evs_nil)) rfl) (ev_intOf h) (sb_lst (n := 0) rfl)
  · exact ev_sub (ev_list (evs_cons h1 (evs_cons h2 evs_nil)) rfl) (ev_intOf h) (sb_lst (n := 1) rfl)
theorem ev_catX {C : Cx} {st : St} {e e' : E} {x y : List Nat} (ha : Ev C st e (lst x)) (hb : Ev C st e' (lst y)) (hx : x.length ≤ 1005) (hy : y.length ≤ 1005) : Ev C st (.bin .add e e') (lst (x ++ y)) := by
  have hl : ∀ l : List Nat, (⟨l.toArray⟩ : Str).length = l.length := fun l => by simp [Str.length]
  have := ev_cat ha hb (by rw [hl, hl]; exact Nat.le_trans (Nat.add_le_add hx hy) (by decide))
  have e : (⟨x.toArray⟩ : Str) ++ ⟨y.toArray⟩ = ⟨(x ++ y).toArray⟩ := by show Str.mk _ = _; simp
  rw [e] at this; exact this
noncomputable def TN1 (w : V) : Prop := (∃ l : List Nat, w = lst l ∧ (∀ c ∈ l, c ∈ SG) ∧ l.length ≤ 1000) ∨ (pl w = true ∧ isTx w = false ∧ ∀ H : AH, isT H .str w = some false)
theorem t1_no {w : V} (h1 : pl w = true) (h2 : isTx w = false) (h3 : ∀ H : AH, isT H .str w = some false) : TN1 w := .inr ⟨h1, h2, h3⟩
theorem t1_in {l : List Nat} (h : ∀ c ∈ l, c ∈ SG) (h1 : l.length ≤ 1000) : TN1 (lst l) := .inl ⟨l, rfl, h, h1⟩
theorem way_C (q : Q (.bool true)) : WB (K9 ad) wayC ⟨S9 v0 v1 (bk9 ps) (.int ((2 * ps.length : Nat) : Int)) (.int 5) (.int c) none none none none none, H, H⟩ (PK H Q) X := by
  refine w_listP (P := TN1) (n := 7) (ep_cons ev_none (t1_no rfl rfl fun _ => rfl) (ep_cons ev_int (t1_no rfl rfl fun _ => rfl) (ep_cons (ev_list (evs_cons (ev_li l_a) evs_nil) rfl) (t1_no rfl rfl fun _ => rfl) (ep_cons (ev_tup (evs_cons (ev_li l_a) (evs_cons (ev_li l_b) evs_nil)) rfl) (t1_no rfl rfl fun _ => rfl) (ep_cons ev_bool (t1_no rfl rfl fun _ => rfl) (ep_cons (ev_li l_e9) (t1_in (in4 rfl) (by decide)) (ep_cons (ev_li l_a) (t1_in (in4 rfl) (by decide)) ep_nil))))))) rfl rfl fun L hl tn => ?_
  have hf := fm c (b := 14) (by omega)
  obtain ⟨k, hk⟩ : ∃ k : Nat, c.fmod 14 = k := ⟨(c.fmod 14).toNat, by omega⟩
  have em : ∀ {ρ : List (Option V)}, ρ[5]? = some (some (.int c)) → Ev (K9 ad) ⟨ρ, H, H⟩ (.bin .mod (.var 5) (.int 14)) (.int k) := fun h => hk ▸ ev_mod (ev_var h) ev_int (by omega)
  refine w_if (decide ((k : Int) < 7)) (ev_cmp (em rfl) (ec_one ev_int cm_lt)) (fun e => ?_) fun _ => kn_nil ?_
  · have hk7 : k < 7 := by have := of_decide_eq_true e; omega
    have hl : k < L.length := hl ▸ hk7
    refine w_asg (ev_sub (ev_var rfl) (em rfl) (sb_lst (List.getElem?_eq_getElem hl))) rfl ?_
    rcases tn _ (List.getElem_mem hl) with ⟨l, el, hs, h1⟩ | ⟨h1, h2, h3⟩
    · rw [el]
      exact w_asg (ev_two9 (t := true) (ev_li l_text) (ev_li l_good) (ev_isi (ev_var rfl) rfl)) rfl (r2 (ev_word (text_good (d := 21) (isTx_of hs) h1)) rfl q)
    · exact w_asg (ev_two9 (t := false) (ev_li l_text) (ev_li l_good) (ev_isi (ev_var rfl) (h3 _))) rfl (r2 (ev_word (text_bad (d := 21) h1 (.inl h2))) rfl q)
  · have hf := fm (c.fdiv 14) (b := 11) (by omega)
    obtain ⟨m, hm⟩ : ∃ m : Nat, 995 + (c.fdiv 14).fmod 11 = m := ⟨(995 + (c.fdiv 14).fmod 11).toNat, by omega⟩
    have hm2 : m ≤ 1005 := by omega
    refine w_asg (w := .int m) (hm ▸ ev_add ev_int (ev_mod (ev_fdiv (ev_var rfl) ev_int (by omega)) ev_int (by omega))) rfl (w_asg (w := lst (repL (m / 2) [97, 98] ++ repL (m % 2) [99])) ?_ rfl ?_)
    · exact ev_catX (ev_mulW (ev_li l_ab) (ofn9 (ev_fdiv (ev_var rfl) ev_int (by omega)) (by rw [Int.fdiv_eq_ediv_of_nonneg _ (by omega)]; omega)) (by omega) (by decide)) (ev_mulW (ev_li l_c) (ofn9 (ev_mod (ev_var rfl) ev_int (by omega)) (by rw [Int.fmod_eq_emod_of_nonneg _ (by omega)]; omega)) (by omega) (by decide)) (by rw [rep_len]; show m / 2 * 2 ≤ _; omega) (by rw [rep_len]; show m % 2 * 1 ≤ _; omega)
    · have hlen : (repL (m / 2) [97, 98] ++ repL (m % 2) [99]).length = m := by rw [List.length_append, rep_len, rep_len]; simp; omega
      have hs : ∀ c ∈ repL (m / 2) [97, 98] ++ repL (m % 2) [99], c ∈ SG := fun c hc => (List.mem_append.mp hc).elim (in_rep (in4 (by decide)) c) (in_rep (in4 (by decide)) c)
      generalize repL (m / 2) [97, 98] ++ repL (m % 2) [99] = l at hlen hs
      by_cases h : m ≤ 1000
      · have e : Ev (K9 ad) ⟨S9 v0 v1 (bk9 ps) (.int ((2 * ps.length : Nat) : Int)) (.int 5) (.int c) (some (.lst L)) (some (.int m)) (some (lst l)) none none, H, H⟩ (.cmp (.var 7) (.one .gt (.int 1000))) (.bool false) := decide_eq_false (show ¬ ((m : Int) > 1000) by omega) ▸ ev_cmp (ev_var rfl) (ec_one ev_int cm_gt)
        exact w_asg (ev_two9 (t := false) (ev_li l_good) (ev_li l_text) e) rfl (r1 (ev_word (text_good (d := 21) (isTx_of hs) (by omega))) rfl q)
      · have e : Ev (K9 ad) ⟨S9 v0 v1 (bk9 ps) (.int ((2 * ps.length : Nat) : Int)) (.int 5) (.int c) (some (.lst L)) (some (.int m)) (some (lst l)) none none, H, H⟩ (.cmp (.var 7) (.one .gt (.int 1000))) (.bool true) := decide_eq_true (show ((m : Int) > 1000) by omega) ▸ ev_cmp (ev_var rfl) (ec_one ev_int cm_gt)
        exact w_asg (ev_two9 (t := true) (ev_li l_good) (ev_li l_text) e) rfl (r1 (ev_word (text_bad (d := 21) rfl (.inr ⟨l, rfl, isTx_of hs, by omega⟩))) rfl q)
theorem evq_mod {C : Cx} {st : St} {e : E} {m : Nat} (hm : 0 < m) (he : EvQ C st e fun v => ∃ i : Int, v = .int i) : EvQ C st (.bin .mod e (.int m)) fun v => ∃ k : Nat, k < m ∧ v = .int k := fun Q X q => he _ _ (by
  rintro _ ⟨i, rfl⟩
  have hf := fm i (b := (m : Int)) (by omega)
  exact ⟨by omega, q _ ⟨(i.fmod m).toNat, by omega, by rw [Int.toNat_of_nonneg hf.1]⟩⟩)
theorem evq_pick {C : Cx} {st : St} {a i : E} {L : List V} (ha : Ev C st a (.lst L)) (hi : EvQ C st i fun v => ∃ k : Nat, k < L.length ∧ v = .int k) : EvQ C st (.sub a i) (· ∈ L) := fun Q X q => ha _ _ (hi _ _ (by
  rintro _ ⟨k, hk, rfl⟩
  exact sb_lst (List.getElem?_eq_getElem hk) _ (q _ (List.getElem_mem hk))))
theorem evq_cell {ns : List Int} {ρ : List (Option V)} {k : Nat} {e : E} (he : Ev (K9 ad) ⟨some (.lst (ns.map V.int)) :: ρ, H, H⟩ e (.int k)) : EvQ (K9 ad) ⟨some (.lst (ns.map V.int)) :: ρ, H, H⟩ (.call "_law_cell_at" (.cons (.var 0) (.cons e .nil))) fun v => ∃ i : Int, v = .int i := fun Q X q => he _ _ (cell_of (d := 28) _ _ fun i => q _ ⟨i, rfl⟩)
theorem evq_sign {ns : List Int} {ρ : List (Option V)} {k : Nat} {e : E} (he : Ev (K9 ad) ⟨some (.lst (ns.map V.int)) :: ρ, H, H⟩ e (.int k)) : EvQ (K9 ad) ⟨some (.lst (ns.map V.int)) :: ρ, H, H⟩ (.call "_law_sign_by" (.cons (.call "_law_cell_at" (.cons (.var 0) (.cons e .nil))) .nil)) isSg := fun Q X q => evq_cell he _ _ (by
  rintro _ ⟨i, rfl⟩
  exact sign_of (d := 28) _ _ q)
end
inductive Yv : V → Prop
  | a {y : Int} (e : decide (y < 3) = true) (h : y = 0 ∨ y = 1 ∨ y = 2) : Yv (.int y)
  | b {y : Int} (e : decide (y < 3) = false) (e' : decide (y < 5) = true) (h : y = 3 ∨ y = 4) : Yv (.int y)
  | c : Yv (.int 5)
theorem evq_yv {C : Cx} {st : St} {i : E} (hi : EvQ C st i fun v => ∃ k : Nat, k < 8 ∧ v = .int k) : EvQ C st (.sub (.list (.cons (.int 0) (.cons (.int 1) (.cons (.int 2) (.cons (.int 3) (.cons (.int 4) (.cons (.int 5) (.cons (.int 5) (.cons (.int 5) .nil))))))))) i) Yv := fun Q X q => by
  obtain ⟨L, h1, h2, h3⟩ : EvP Yv C st (.cons (.int 0) (.cons (.int 1) (.cons (.int 2) (.cons (.int 3) (.cons (.int 4) (.cons (.int 5) (.cons (.int 5) (.cons (.int 5) .nil)))))))) 8 := ep_cons ev_int (.a rfl (.inl rfl)) (ep_cons ev_int (.a rfl (.inr (.inl rfl))) (ep_cons ev_int (.a rfl (.inr (.inr rfl))) (ep_cons ev_int (.b rfl rfl (.inl rfl)) (ep_cons ev_int (.b rfl rfl (.inr rfl)) (ep_cons ev_int .c (ep_cons ev_int .c (ep_cons ev_int .c ep_nil)))))))
  rw [← h1] at hi
  exact evq_pick (ev_list h3 (Nat.ble_eq.mpr (h1 ▸ (by decide)))) hi _ _ fun w hw => q w (h2 w hw)
theorem main09 (ad : Nat) (ns : List Int) : (C9 ad 30).call "law" [.lst (ns.map V.int)] (fun _ => none) (fun v => v = .bool true) (fun _ => False) := by
  refine call_of (fn := L09.F_law) rfl rfl (by decide) ?_
  refine w_asgq (evq_compR (P := isSg) (fun Q X q => evq_mod (m := 41) (by decide) (evq_cell (ad := ad) (k := 0) ev_int) _ _ fun w hw => q w (let ⟨k, h1, h2⟩ := hw; ⟨k, by omega, h2⟩)) (show 11 < 12 by decide) fun k => ?_) rfl ?_
  · refine evq_sign (k := 3 + k % 20) (ofn9 (ev_add ev_int (ev_mod (i := (k : Int)) (j := 20) (ev_var rfl) ev_int (by omega))) ?_)
    rw [Int.fmod_eq_emod_of_nonneg _ (by omega)]; omega
  rintro _ ⟨l, rfl, hl, hs⟩
  obtain ⟨cs, rfl, hc⟩ := all_sg hs
  rw [List.length_map] at hl
  have hb := ps9_ok hc hl
  refine w_asg (ev_book (r := List.replicate 10 none) rfl (fun _ => rfl) hl) rfl ?_
  generalize ps9 cs = ps at hb
  refine w_asg (w := .int ((2 * ps.length : Nat) : Int)) (ofn9 (ev_mul (j := (ps.length : Int)) ev_int (ev_len (ev_sub (ev_var rfl) ev_int (sb_tup (n := 0) rfl)) (by show some _ = _; rw [List.length_map])) (.inl (by decide))) (by omega)) rfl ?_
  refine w_asgq (evq_yv (evq_mod (m := 8) (by decide) (evq_cell (ad := ad) (k := 1) ev_int))) rfl ?_
  intro v hv
  cases hv with
  | a e hy =>
    refine w_asgq (evq_cell (ad := ad) (k := 2) ev_int) rfl ?_
    rintro _ ⟨c, rfl⟩
    exact w_ift (e ▸ ev_cmp (ev_var rfl) (ec_one ev_int cm_lt)) (way_A hb hy rfl)
  | b e e' hy =>
    refine w_asgq (evq_cell (ad := ad) (k := 2) ev_int) rfl ?_
    rintro _ ⟨c, rfl⟩
    exact w_iff (e ▸ ev_cmp (ev_var rfl) (ec_one ev_int cm_lt)) (kn_nil (w_ift (e' ▸ ev_cmp (ev_var rfl) (ec_one ev_int cm_lt)) (way_B hb hy rfl)))
  | c =>
    refine w_asgq (evq_cell (ad := ad) (k := 2) ev_int) rfl ?_
    rintro _ ⟨c, rfl⟩
    exact w_iff (ev_cmp (ev_var rfl) (ec_one ev_int cm_lt)) (kn_nil (w_iff (ev_cmp (ev_var rfl) (ec_one ev_int cm_lt)) (kn_nil (way_C rfl))))
end Lib
namespace L09
open PySem Mine
theorem main (C : Nat) (ns : List Int) (h : ns.length ≤ 63) : (cxN tbl gtab (ctab C) 30).call "law" [.lst (ns.map V.int)] (fun _ => none) (fun v => v = .bool true) (fun _ => False) := Mine.Lib.main09 C ns
end L09
end

end Mine

section
set_option autoImplicit false
namespace Mine
open PySem

/-- what a block's names are: the frame's names and their numbers, how many are in use, the table -/
structure Sc where
  σ : List (Str × Nat)
  used : Nat
  names : List (Str × NameKind)
  fns : List String
  xs : List String
  hot : Bool
  hots : List String
  dead : Bool

noncomputable def opOf : Bop → Operator
  | .add => .Add | .sub => .Sub | .mul => .Mult | .fdiv => .FloorDiv | .mod => .Mod | .pow => .Pow
noncomputable def copOf : Cop → CmpOp
  | .eq => .Eq | .ne => .NotEq | .lt => .Lt | .le => .LtE | .gt => .Gt | .ge => .GtE | .is => .Is | .isnot => .IsNot | .isin => .In | .notin => .NotIn
noncomputable def tyName : Ty → String
  | .int => "int" | .bool => "bool" | .str => "str" | .tuple => "tuple" | .list => "list" | .own c => c | .ValueError => "ValueError"

/-- what a handler's own suite, and what it calls, may not use -/
noncomputable def coldB : List String := ["sum", "max", "min", "reversed", "enumerate", "zip"]
noncomputable def hotOk (c : Sc) (n : String) : Bool := !c.hot || (!coldB.contains n && (!c.fns.contains n || (c.hots.contains n && !c.dead)))
noncomputable def isGlob (c : Sc) (x : Str) (n : String) : Bool := decide (x = Str.ofString n) && decide (c.names.lookup x = some .globalImplicit) && !(x == ("__debug__" : Str)) && hotOk c n
noncomputable def isVar (c : Sc) (x : Str) (i : Nat) : Bool := decide (c.σ.lookup x = some i) && !(x == ("__debug__" : Str))
noncomputable def noStar (x : Expr) : Bool := by cases x with
  | Starred => exact false
  | _ => exact true
/-- no slice, and no written super() -/
noncomputable def plainX (x : Expr) : Bool := by cases x with
  | Starred => exact false
  | Slice => exact false
  | _ => exact true

/-- the names that a target of a comprehension binds, in the comprehension's own table -/
noncomputable def tgNames : Expr → Option (List Str)
  | .Name x _ => some [x]
  | .Tuple [.Name x _, .Name y _] _ _ => some [x, y]
  | _ => none
noncomputable def tgIs (n : Nat) (t : Tg) (xs : List Str) : Bool := by cases t with
  | var i => exact i == n && xs.length == 1
  | tup is => exact false
noncomputable def inner (c : Sc) (xs : List Str) (names : List (Str × NameKind)) : Sc :=
  ⟨(xs.zip (List.range' c.used xs.length)) ++ c.σ.filter (fun p => decide (names.lookup p.1 = some .free)), c.used + xs.length, names, c.fns, c.xs, c.hot, c.hots, c.dead⟩
/-- a comprehension's own table: its targets, names of the frame, globals -/
noncomputable def tableOk (c : Sc) (xs : List Str) (sc : Scope) : Bool :=
  decide (sc.kind = .function) && xs.all (fun x => decide (sc.names.lookup x = some .local) && !(x == (".0" : Str))) && decide xs.Nodup &&
  sc.names.all (fun p => match p.2 with
    | .local => xs.contains p.1 || p.1 == (".0" : Str)
    | .free => decide (sc.names.lookup p.1 = some .free) && (c.σ.lookup p.1).isSome && (decide (c.names.lookup p.1 = some .cell) || decide (c.names.lookup p.1 = some .free)) && !(p.1 == ("__classdict__" : Str))
    | .globalImplicit => true
    | _ => false) && decide (sc.names.map (·.1)).Nodup && !c.dead

noncomputable def canStore (c : Sc) (x : Str) : Bool := decide (c.names.lookup x = some .local) || decide (c.names.lookup x = some .cell)
noncomputable def isSetX (x : Expr) : Bool := by cases x with
  | Set => exact true
  | _ => exact false
noncomputable def listable (x : It) : Bool := by cases x with
  | range1 => exact true
  | _ => exact false
noncomputable def walk (x : It) : Bool := by cases x with
  | _ => exact true
noncomputable def plainTy (x : Ty) : Bool := by cases x with
  | own => exact false
  | ValueError => exact false
  | _ => exact true
noncomputable def isTupX (x : Expr) : Bool := by cases x with
  | Tuple => exact true
  | _ => exact false
noncomputable def isEZ (x : It) : Bool := by cases x with
  | enum => exact true
  | zip => exact true
  | _ => exact false
noncomputable def ezOk (it : It) (x : Expr) : Bool := walk it && (!isEZ it || isTupX x)
theorem ezOk_inv {it : It} {x : Expr} (h : ezOk it x = true) (e : isEZ it = true) : isTupX x = true := by
  have h := ((Bool.and_eq_true _ _).mp h).2
  rw [e] at h
  exact h
theorem ezOk_walk {it : It} {x : Expr} (h : ezOk it x = true) : walk it = true := ((Bool.and_eq_true _ _).mp h).1
noncomputable def isNoneE (x : E) : Bool := by cases x with
  | none => exact true
  | _ => exact false

/-! shapes of the program's expressions -/
theorem ff {P : Prop} (h : false = true) : P := Bool.noConfusion h
theorem and2_elim {b0 b1 : Bool} {P : Prop} (h : (b0 && b1) = true) (k : b0 = true → b1 = true → P) : P := k ((Bool.and_eq_true _ _).mp h).1 ((Bool.and_eq_true _ _).mp h).2
theorem and3_elim {b0 b1 b2 : Bool} {P : Prop} (h : ((b0 && b1) && b2) = true) (k : b0 = true → b1 = true → b2 = true → P) : P := and2_elim ((Bool.and_eq_true _ _).mp h).1 fun h0 h1 => k h0 h1 ((Bool.and_eq_true _ _).mp h).2
theorem and4_elim {b0 b1 b2 b3 : Bool} {P : Prop} (h : (((b0 && b1) && b2) && b3) = true) (k : b0 = true → b1 = true → b2 = true → b3 = true → P) : P := and3_elim ((Bool.and_eq_true _ _).mp h).1 fun h0 h1 h2 => k h0 h1 h2 ((Bool.and_eq_true _ _).mp h).2
theorem and5_elim {b0 b1 b2 b3 b4 : Bool} {P : Prop} (h : ((((b0 && b1) && b2) && b3) && b4) = true) (k : b0 = true → b1 = true → b2 = true → b3 = true → b4 = true → P) : P := and4_elim ((Bool.and_eq_true _ _).mp h).1 fun h0 h1 h2 h3 => k h0 h1 h2 h3 ((Bool.and_eq_true _ _).mp h).2
theorem and6_elim {b0 b1 b2 b3 b4 b5 : Bool} {P : Prop} (h : (((((b0 && b1) && b2) && b3) && b4) && b5) = true) (k : b0 = true → b1 = true → b2 = true → b3 = true → b4 = true → b5 = true → P) : P := and5_elim ((Bool.and_eq_true _ _).mp h).1 fun h0 h1 h2 h3 h4 => k h0 h1 h2 h3 h4 ((Bool.and_eq_true _ _).mp h).2
theorem and7_elim {b0 b1 b2 b3 b4 b5 b6 : Bool} {P : Prop} (h : ((((((b0 && b1) && b2) && b3) && b4) && b5) && b6) = true) (k : b0 = true → b1 = true → b2 = true → b3 = true → b4 = true → b5 = true → b6 = true → P) : P := and6_elim ((Bool.and_eq_true _ _).mp h).1 fun h0 h1 h2 h3 h4 h5 => k h0 h1 h2 h3 h4 h5 ((Bool.and_eq_true _ _).mp h).2
theorem and8_elim {b0 b1 b2 b3 b4 b5 b6 b7 : Bool} {P : Prop} (h : (((((((b0 && b1) && b2) && b3) && b4) && b5) && b6) && b7) = true) (k : b0 = true → b1 = true → b2 = true → b3 = true → b4 = true → b5 = true → b6 = true → b7 = true → P) : P := and7_elim ((Bool.and_eq_true _ _).mp h).1 fun h0 h1 h2 h3 h4 h5 h6 => k h0 h1 h2 h3 h4 h5 h6 ((Bool.and_eq_true _ _).mp h).2
/-- of this make -/
noncomputable def Is {α β : Type} (mk : α → β) (x : β) : Type := { q : α // x = mk q }
noncomputable def onO {α : Type} (o : Option α) (f : α → Bool) : Bool := by cases o with
  | none => exact false
  | some a => exact f a
theorem onO_inv {α : Type} {o : Option α} {f : α → Bool} (h : onO o f = true) : ∃ a, f a = true := by
  cases o with
  | none => exact ff h
  | some a => exact ⟨a, h⟩
noncomputable def on1 {α β1 : Type} (o : Option α) (g1 : α → β1) (f : β1 → Bool) : Bool := onO o fun q => f (g1 q)
theorem on1_inv {α β1 : Type} {o : Option α} {g1 : α → β1} {f : β1 → Bool} (h : on1 o g1 f = true) : ∃ q, f (g1 q) = true := onO_inv h
noncomputable def on2 {α β1 β2 : Type} (o : Option α) (g1 : α → β1) (g2 : α → β2) (f : β1 → β2 → Bool) : Bool := onO o fun q => f (g1 q) (g2 q)
theorem on2_inv {α β1 β2 : Type} {o : Option α} {g1 : α → β1} {g2 : α → β2} {f : β1 → β2 → Bool} (h : on2 o g1 g2 f = true) : ∃ q, f (g1 q) (g2 q) = true := onO_inv h
noncomputable def on3 {α β1 β2 β3 : Type} (o : Option α) (g1 : α → β1) (g2 : α → β2) (g3 : α → β3) (f : β1 → β2 → β3 → Bool) : Bool := onO o fun q => f (g1 q) (g2 q) (g3 q)
theorem on3_inv {α β1 β2 β3 : Type} {o : Option α} {g1 : α → β1} {g2 : α → β2} {g3 : α → β3} {f : β1 → β2 → β3 → Bool} (h : on3 o g1 g2 g3 f = true) : ∃ q, f (g1 q) (g2 q) (g3 q) = true := onO_inv h
noncomputable def on4 {α β1 β2 β3 β4 : Type} (o : Option α) (g1 : α → β1) (g2 : α → β2) (g3 : α → β3) (g4 : α → β4) (f : β1 → β2 → β3 → β4 → Bool) : Bool := onO o fun q => f (g1 q) (g2 q) (g3 q) (g4 q)
theorem on4_inv {α β1 β2 β3 β4 : Type} {o : Option α} {g1 : α → β1} {g2 : α → β2} {g3 : α → β3} {g4 : α → β4} {f : β1 → β2 → β3 → β4 → Bool} (h : on4 o g1 g2 g3 g4 f = true) : ∃ q, f (g1 q) (g2 q) (g3 q) (g4 q) = true := onO_inv h
noncomputable def aConst (x : Expr) : Option (Is (fun q : Const × Nat × Pos => Expr.Constant (q.1) (q.2.1) (q.2.2)) x) := by cases x with
  | Constant v k p => exact some ⟨(v, k, p), rfl⟩
  | _ => exact none
noncomputable def onConst (x : Expr) (f : Const → Bool) : Bool := on1 (aConst x) (fun q => q.1.1) f
noncomputable def aName (x : Expr) : Option (Is (fun q : Str × Pos => Expr.Name (q.1) (q.2)) x) := by cases x with
  | Name y p => exact some ⟨(y, p), rfl⟩
  | _ => exact none
noncomputable def onName (x : Expr) (f : Str → Bool) : Bool := on1 (aName x) (fun q => q.1.1) f
noncomputable def aBin (x : Expr) : Option (Is (fun q : Expr × Operator × Expr × Pos => Expr.BinOp (q.1) (q.2.1) (q.2.2.1) (q.2.2.2)) x) := by cases x with
  | BinOp l o r p => exact some ⟨(l, o, r, p), rfl⟩
  | _ => exact none
noncomputable def onBin (x : Expr) (f : Expr → Operator → Expr → Bool) : Bool := on3 (aBin x) (fun q => q.1.1) (fun q => q.1.2.1) (fun q => q.1.2.2.1) f
noncomputable def aUn (x : Expr) : Option (Is (fun q : UnaryOp × Expr × Pos => Expr.UnaryOp (q.1) (q.2.1) (q.2.2)) x) := by cases x with
  | UnaryOp o y p => exact some ⟨(o, y, p), rfl⟩
  | _ => exact none
noncomputable def onUn (x : Expr) (f : UnaryOp → Expr → Bool) : Bool := on2 (aUn x) (fun q => q.1.1) (fun q => q.1.2.1) f
noncomputable def aBool (x : Expr) : Option (Is (fun q : BoolOp × (List Expr) × Pos => Expr.BoolOp (q.1) (q.2.1) (q.2.2)) x) := by cases x with
  | BoolOp o ys p => exact some ⟨(o, ys, p), rfl⟩
  | _ => exact none
noncomputable def onBool (x : Expr) (f : BoolOp → (List Expr) → Pos → Bool) : Bool := on3 (aBool x) (fun q => q.1.1) (fun q => q.1.2.1) (fun q => q.1.2.2) f
noncomputable def aIf (x : Expr) : Option (Is (fun q : Expr × Expr × Expr × Pos => Expr.IfExp (q.1) (q.2.1) (q.2.2.1) (q.2.2.2)) x) := by cases x with
  | IfExp y z u p => exact some ⟨(y, z, u, p), rfl⟩
  | _ => exact none
noncomputable def onIf (x : Expr) (f : Expr → Expr → Expr → Bool) : Bool := on3 (aIf x) (fun q => q.1.1) (fun q => q.1.2.1) (fun q => q.1.2.2.1) f
noncomputable def aList (x : Expr) : Option (Is (fun q : (List Expr) × Pos => Expr.List (q.1) (q.2)) x) := by cases x with
  | List xs p => exact some ⟨(xs, p), rfl⟩
  | _ => exact none
noncomputable def onList (x : Expr) (f : (List Expr) → Bool) : Bool := on1 (aList x) (fun q => q.1.1) f
noncomputable def aTup (x : Expr) : Option (Is (fun q : (List Expr) × Nat × Pos => Expr.Tuple (q.1) (q.2.1) (q.2.2)) x) := by cases x with
  | Tuple xs k p => exact some ⟨(xs, k, p), rfl⟩
  | _ => exact none
noncomputable def onTup (x : Expr) (f : (List Expr) → Bool) : Bool := on1 (aTup x) (fun q => q.1.1) f
noncomputable def aCmp (x : Expr) : Option (Is (fun q : Expr × (List CmpOp) × (List Expr) × Pos => Expr.Compare (q.1) (q.2.1) (q.2.2.1) (q.2.2.2)) x) := by cases x with
  | Compare l o r p => exact some ⟨(l, o, r, p), rfl⟩
  | _ => exact none
noncomputable def onCmp (x : Expr) (f : Expr → (List CmpOp) → (List Expr) → Bool) : Bool := on3 (aCmp x) (fun q => q.1.1) (fun q => q.1.2.1) (fun q => q.1.2.2.1) f
noncomputable def aSub (x : Expr) : Option (Is (fun q : Expr × Expr × Pos => Expr.Subscript (q.1) (q.2.1) (q.2.2)) x) := by cases x with
  | Subscript y z p => exact some ⟨(y, z, p), rfl⟩
  | _ => exact none
noncomputable def onSub (x : Expr) (f : Expr → Expr → Bool) : Bool := on2 (aSub x) (fun q => q.1.1) (fun q => q.1.2.1) f
noncomputable def aSlice (x : Expr) : Option (Is (fun q : (Option Expr) × (Option Expr) × (Option Expr) × Pos => Expr.Slice (q.1) (q.2.1) (q.2.2.1) (q.2.2.2)) x) := by cases x with
  | Slice y z u p => exact some ⟨(y, z, u, p), rfl⟩
  | _ => exact none
noncomputable def onSlice (x : Expr) (f : (Option Expr) → (Option Expr) → (Option Expr) → Bool) : Bool := on3 (aSlice x) (fun q => q.1.1) (fun q => q.1.2.1) (fun q => q.1.2.2.1) f
noncomputable def aCall (x : Expr) : Option (Is (fun q : Expr × (List Expr) × (List Keyword) × Pos => Expr.Call (q.1) (q.2.1) (q.2.2.1) (q.2.2.2)) x) := by cases x with
  | Call g xs ks p => exact some ⟨(g, xs, ks, p), rfl⟩
  | _ => exact none
noncomputable def onCall (x : Expr) (f : Expr → (List Expr) → (List Keyword) → Pos → Bool) : Bool := on4 (aCall x) (fun q => q.1.1) (fun q => q.1.2.1) (fun q => q.1.2.2.1) (fun q => q.1.2.2.2) f
noncomputable def aAttr (x : Expr) : Option (Is (fun q : Expr × Str × Pos => Expr.Attribute (q.1) (q.2.1) (q.2.2)) x) := by cases x with
  | Attribute o n p => exact some ⟨(o, n, p), rfl⟩
  | _ => exact none
noncomputable def onAttr (x : Expr) (f : Expr → Str → Pos → Bool) : Bool := on3 (aAttr x) (fun q => q.1.1) (fun q => q.1.2.1) (fun q => q.1.2.2) f
noncomputable def aLC (x : Expr) : Option (Is (fun q : Expr × (List Comprehension) × Scope × Pos => Expr.ListComp (q.1) (q.2.1) (q.2.2.1) (q.2.2.2)) x) := by cases x with
  | ListComp y gs sc p => exact some ⟨(y, gs, sc, p), rfl⟩
  | _ => exact none
noncomputable def onLC (x : Expr) (f : Expr → (List Comprehension) → Scope → Bool) : Bool := on3 (aLC x) (fun q => q.1.1) (fun q => q.1.2.1) (fun q => q.1.2.2.1) f
theorem onConst_inv {x : Expr} {f : Const → Bool} (h : onConst x f = true) : ∃ v k p, x = .Constant v k p ∧ f v = true := let ⟨q, h⟩ := on1_inv h; ⟨_, _, _, q.2, h⟩
theorem onConst_elim {x : Expr} {f : Const → Bool} {P : Expr → Prop} (h : onConst x f = true) (kk_ : ∀ v k p, f v = true → P (.Constant v k p)) : P x := by
  obtain ⟨v, k, p, rfl, c_⟩ := onConst_inv h; exact kk_ _ _ _ c_
theorem onName_inv {x : Expr} {f : Str → Bool} (h : onName x f = true) : ∃ y p, x = .Name y p ∧ f y = true := let ⟨q, h⟩ := on1_inv h; ⟨_, _, q.2, h⟩
theorem onName_elim {x : Expr} {f : Str → Bool} {P : Expr → Prop} (h : onName x f = true) (kk_ : ∀ y p, f y = true → P (.Name y p)) : P x := by
  obtain ⟨y, p, rfl, c_⟩ := onName_inv h; exact kk_ _ _ c_
theorem onBin_inv {x : Expr} {f : Expr → Operator → Expr → Bool} (h : onBin x f = true) : ∃ l o r p, x = .BinOp l o r p ∧ f l o r = true := let ⟨q, h⟩ := on3_inv h; ⟨_, _, _, _, q.2, h⟩
theorem onBin_elim {x : Expr} {f : Expr → Operator → Expr → Bool} {P : Expr → Prop} (h : onBin x f = true) (kk_ : ∀ l o r p, f l o r = true → P (.BinOp l o r p)) : P x := by
  obtain ⟨l, o, r, p, rfl, c_⟩ := onBin_inv h; exact kk_ _ _ _ _ c_
theorem onUn_inv {x : Expr} {f : UnaryOp → Expr → Bool} (h : onUn x f = true) : ∃ o y p, x = .UnaryOp o y p ∧ f o y = true := let ⟨q, h⟩ := on2_inv h; ⟨_, _, _, q.2, h⟩
theorem onUn_elim {x : Expr} {f : UnaryOp → Expr → Bool} {P : Expr → Prop} (h : onUn x f = true) (kk_ : ∀ o y p, f o y = true → P (.UnaryOp o y p)) : P x := by
  obtain ⟨o, y, p, rfl, c_⟩ := onUn_inv h; exact kk_ _ _ _ c_
theorem onBool_inv {x : Expr} {f : BoolOp → (List Expr) → Pos → Bool} (h : onBool x f = true) : ∃ o ys p, x = .BoolOp o ys p ∧ f o ys p = true := let ⟨q, h⟩ := on3_inv h; ⟨_, _, _, q.2, h⟩
theorem onBool_elim {x : Expr} {f : BoolOp → (List Expr) → Pos → Bool} {P : Expr → Prop} (h : onBool x f = true) (kk_ : ∀ o ys p, f o ys p = true → P (.BoolOp o ys p)) : P x := by
  obtain ⟨o, ys, p, rfl, c_⟩ := onBool_inv h; exact kk_ _ _ _ c_
theorem onIf_inv {x : Expr} {f : Expr → Expr → Expr → Bool} (h : onIf x f = true) : ∃ y z u p, x = .IfExp y z u p ∧ f y z u = true := let ⟨q, h⟩ := on3_inv h; ⟨_, _, _, _, q.2, h⟩
theorem onIf_elim {x : Expr} {f : Expr → Expr → Expr → Bool} {P : Expr → Prop} (h : onIf x f = true) (kk_ : ∀ y z u p, f y z u = true → P (.IfExp y z u p)) : P x := by
  obtain ⟨y, z, u, p, rfl, c_⟩ := onIf_inv h; exact kk_ _ _ _ _ c_
theorem onList_inv {x : Expr} {f : (List Expr) → Bool} (h : onList x f = true) : ∃ xs p, x = .List xs p ∧ f xs = true := let ⟨q, h⟩ := on1_inv h; ⟨_, _, q.2, h⟩
theorem onList_elim {x : Expr} {f : (List Expr) → Bool} {P : Expr → Prop} (h : onList x f = true) (kk_ : ∀ xs p, f xs = true → P (.List xs p)) : P x := by
  obtain ⟨xs, p, rfl, c_⟩ := onList_inv h; exact kk_ _ _ c_
theorem onTup_inv {x : Expr} {f : (List Expr) → Bool} (h : onTup x f = true) : ∃ xs k p, x = .Tuple xs k p ∧ f xs = true := let ⟨q, h⟩ := on1_inv h; ⟨_, _, _, q.2, h⟩
theorem onTup_elim {x : Expr} {f : (List Expr) → Bool} {P : Expr → Prop} (h : onTup x f = true) (kk_ : ∀ xs k p, f xs = true → P (.Tuple xs k p)) : P x := by
  obtain ⟨xs, k, p, rfl, c_⟩ := onTup_inv h; exact kk_ _ _ _ c_
theorem onCmp_inv {x : Expr} {f : Expr → (List CmpOp) → (List Expr) → Bool} (h : onCmp x f = true) : ∃ l o r p, x = .Compare l o r p ∧ f l o r = true := let ⟨q, h⟩ := on3_inv h; ⟨_, _, _, _, q.2, h⟩
theorem onCmp_elim {x : Expr} {f : Expr → (List CmpOp) → (List Expr) → Bool} {P : Expr → Prop} (h : onCmp x f = true) (kk_ : ∀ l o r p, f l o r = true → P (.Compare l o r p)) : P x := by
  obtain ⟨l, o, r, p, rfl, c_⟩ := onCmp_inv h; exact kk_ _ _ _ _ c_
theorem onSub_inv {x : Expr} {f : Expr → Expr → Bool} (h : onSub x f = true) : ∃ y z p, x = .Subscript y z p ∧ f y z = true := let ⟨q, h⟩ := on2_inv h; ⟨_, _, _, q.2, h⟩
theorem onSub_elim {x : Expr} {f : Expr → Expr → Bool} {P : Expr → Prop} (h : onSub x f = true) (kk_ : ∀ y z p, f y z = true → P (.Subscript y z p)) : P x := by
  obtain ⟨y, z, p, rfl, c_⟩ := onSub_inv h; exact kk_ _ _ _ c_
theorem onSlice_inv {x : Expr} {f : (Option Expr) → (Option Expr) → (Option Expr) → Bool} (h : onSlice x f = true) : ∃ y z u p, x = .Slice y z u p ∧ f y z u = true := let ⟨q, h⟩ := on3_inv h; ⟨_, _, _, _, q.2, h⟩
theorem onSlice_elim {x : Expr} {f : (Option Expr) → (Option Expr) → (Option Expr) → Bool} {P : Expr → Prop} (h : onSlice x f = true) (kk_ : ∀ y z u p, f y z u = true → P (.Slice y z u p)) : P x := by
  obtain ⟨y, z, u, p, rfl, c_⟩ := onSlice_inv h; exact kk_ _ _ _ _ c_
theorem onCall_inv {x : Expr} {f : Expr → (List Expr) → (List Keyword) → Pos → Bool} (h : onCall x f = true) : ∃ g xs ks p, x = .Call g xs ks p ∧ f g xs ks p = true := let ⟨q, h⟩ := on4_inv h; ⟨_, _, _, _, q.2, h⟩
theorem onCall_elim {x : Expr} {f : Expr → (List Expr) → (List Keyword) → Pos → Bool} {P : Expr → Prop} (h : onCall x f = true) (kk_ : ∀ g xs ks p, f g xs ks p = true → P (.Call g xs ks p)) : P x := by
  obtain ⟨g, xs, ks, p, rfl, c_⟩ := onCall_inv h; exact kk_ _ _ _ _ c_
theorem onAttr_inv {x : Expr} {f : Expr → Str → Pos → Bool} (h : onAttr x f = true) : ∃ o n p, x = .Attribute o n p ∧ f o n p = true := let ⟨q, h⟩ := on3_inv h; ⟨_, _, _, q.2, h⟩
theorem onAttr_elim {x : Expr} {f : Expr → Str → Pos → Bool} {P : Expr → Prop} (h : onAttr x f = true) (kk_ : ∀ o n p, f o n p = true → P (.Attribute o n p)) : P x := by
  obtain ⟨o, n, p, rfl, c_⟩ := onAttr_inv h; exact kk_ _ _ _ c_
theorem onLC_inv {x : Expr} {f : Expr → (List Comprehension) → Scope → Bool} (h : onLC x f = true) : ∃ y gs sc p, x = .ListComp y gs sc p ∧ f y gs sc = true := let ⟨q, h⟩ := on3_inv h; ⟨_, _, _, _, q.2, h⟩
theorem onLC_elim {x : Expr} {f : Expr → (List Comprehension) → Scope → Bool} {P : Expr → Prop} (h : onLC x f = true) (kk_ : ∀ y gs sc p, f y gs sc = true → P (.ListComp y gs sc p)) : P x := by
  obtain ⟨y, gs, sc, p, rfl, c_⟩ := onLC_inv h; exact kk_ _ _ _ _ c_
noncomputable def one {α : Type} : List α → (α → Bool) → Bool
  | [x], f => f x
  | _, _ => false
noncomputable def two {α : Type} : List α → (α → α → Bool) → Bool
  | [x, y], f => f x y
  | _, _ => false
noncomputable def some1 {α : Type} : List α → Bool
  | _ :: _ => true
  | _ => false
/-- a call of a name, by place alone -/
noncomputable def onCallN (x : Expr) (f : Str → List Expr → Bool) : Bool := onCall x fun g xs ks _ => ks.isEmpty && onName g fun y => f y xs
section
variable {x : Expr}
noncomputable def onDict0 : Expr → Bool
  | .Dict [] [] _ => true
  | _ => false
theorem onDict0_inv (h : onDict0 x = true) : ∃ p, x = .Dict [] [] p := by
  cases x with
  | Dict ks vs p =>
    cases ks with
    | nil =>
      cases vs with
      | nil => exact ⟨_, rfl⟩
      | cons => exact ff h
    | cons => exact ff h
  | _ => exact ff h
theorem one_inv {α : Type} {xs : List α} {f : α → Bool} (h : one xs f = true) : ∃ x, xs = [x] ∧ f x = true := by
  rcases xs with _ | ⟨a, _ | ⟨b, r⟩⟩
  · exact ff h
  · exact ⟨_, rfl, h⟩
  · exact ff h
theorem one_elim {α : Type} {xs : List α} {f : α → Bool} {P : List α → Prop} (h : one xs f = true) (kk_ : ∀ x, f x = true → P ([x])) : P xs := by
  obtain ⟨x, rfl, c_⟩ := one_inv h; exact kk_ _ c_
theorem two_inv {α : Type} {xs : List α} {f : α → α → Bool} (h : two xs f = true) : ∃ x y, xs = [x, y] ∧ f x y = true := by
  rcases xs with _ | ⟨a, _ | ⟨b, _ | ⟨e, r⟩⟩⟩
  · exact ff h
  · exact ff h
  · exact ⟨_, _, rfl, h⟩
  · exact ff h
theorem two_elim {α : Type} {xs : List α} {f : α → α → Bool} {P : List α → Prop} (h : two xs f = true) (kk_ : ∀ x y, f x y = true → P ([x, y])) : P xs := by
  obtain ⟨x, y, rfl, c_⟩ := two_inv h; exact kk_ _ _ c_
theorem some1_inv {α : Type} {xs : List α} (h : some1 xs = true) : ∃ x r, xs = x :: r := by
  cases xs with
  | nil => exact ff h
  | cons a r => exact ⟨_, _, rfl⟩
theorem onCallN_inv {f : Str → List Expr → Bool} (h : onCallN x f = true) : ∃ y p xs q, x = .Call (.Name y p) xs [] q ∧ f y xs = true := by
  obtain ⟨g, xs, ks, q, rfl, k⟩ := onCall_inv h
  obtain ⟨h1, h2⟩ := (Bool.and_eq_true _ _).mp k
  obtain ⟨y, p, rfl, k3⟩ := onName_inv h2
  cases ks with
  | nil => exact ⟨_, _, _, _, rfl, k3⟩
  | cons => exact ff h1
theorem onCallN_elim {f : Str → List Expr → Bool} {P : Expr → Prop} (h : onCallN x f = true) (kk_ : ∀ y p xs q, f y xs = true → P (.Call (.Name y p) xs [] q)) : P x := by
  obtain ⟨y, p, xs, q, rfl, c_⟩ := onCallN_inv h; exact kk_ _ _ _ _ c_
end

noncomputable def chkN (c : Sc) (i : Nat) (e : Expr) : Bool := onName e fun x => isVar c x i && canStore c x
noncomputable def chkTg (c : Sc) : Tg → Expr → Bool
  | .var i, x => chkN c i x
  | .tup _, _ => false
noncomputable def isStrE (x : E) : Bool := by cases x with
  | str => exact true
  | _ => exact false
noncomputable def optE (f : Expr → Bool) (b : Bool) : Option Expr → Bool
  | some x => f x
  | none => b
/-- two or more, by and / or -/
noncomputable def andT (f g : Expr → Bool) (o : BoolOp) : List Expr → Pos → Bool
  | [y, z], _ => f y && g z
  | [y, z, u], p => f y && g (.BoolOp o [z, u] p)
  | [y, z, u, v], p => f y && g (.BoolOp o [z, u, v] p)
  | [y, z, u, v, t], p => f y && g (.BoolOp o [z, u, v, t] p)
  | _, _ => false
theorem andT_inv {f g : Expr → Bool} {o : BoolOp} {ys : List Expr} {p : Pos} (h : andT f g o ys p = true) : (∃ y z, ys = [y, z] ∧ f y = true ∧ g z = true) ∨ (∃ y z u r, ys = y :: z :: u :: r ∧ f y = true ∧ g (.BoolOp o (z :: u :: r) p) = true) := by
  rcases ys with _ | ⟨y, _ | ⟨z, _ | ⟨u, _ | ⟨v, _ | ⟨t, _ | ⟨w, r⟩⟩⟩⟩⟩⟩
  · exact ff h
  · exact ff h
  · exact .inl ⟨_, _, rfl, (Bool.and_eq_true _ _).mp h⟩
  · exact .inr ⟨_, _, _, _, rfl, (Bool.and_eq_true _ _).mp h⟩
  · exact .inr ⟨_, _, _, _, rfl, (Bool.and_eq_true _ _).mp h⟩
  · exact .inr ⟨_, _, _, _, rfl, (Bool.and_eq_true _ _).mp h⟩
  · exact ff h
noncomputable def baseX (x : Expr) : Bool := by cases x with
  | Name => exact true
  | Subscript => exact true
  | _ => exact false
noncomputable def attrB (x : Expr) : Bool := by cases x with
  | Name => exact true
  | Call f xs ks p => exact some1 xs
  | _ => exact false
mutual
noncomputable def chkE (c : Sc) : E → Expr → Bool
  | .none, x => onConst x fun v => decide (v = .none)
  | .bool b, x => onConst x fun v => decide (v = .bool b)
  | .int i, x => onConst x fun v => decide (v = .int i)
  | .str s, x => onConst x fun v => decide (v = .str s) && decide (s.length ≤ sizeLine) && s.cps.all (· < 0x110000)
  | .var i, x => onName x fun y => isVar c y i
  | .glob g, x => onName x fun y => isGlob c y g
  | .bin op a b, x => onBin x fun l o r => decide (o = opOf op) && chkE c a l && chkE c b r
  | .neg a, x => onUn x fun o y => decide (o = .USub) && chkE c a y
  | .not a, x => onUn x fun o y => decide (o = .Not) && chkE c a y
  | .and a b, x => onBool x fun o ys p => decide (o = .And) && andT (chkE c a) (chkE c b) .And ys p
  | .or a b, x => onBool x fun o ys p => decide (o = .Or) && andT (chkE c a) (chkE c b) .Or ys p
  | .ite t a b, x => onIf x fun y z u => chkE c t y && chkE c a z && chkE c b u
  | .list es, x => onList x fun xs => chkEs c es xs
  | .tup es, x => onTup x fun xs => chkEs c es xs
  | .cmp a ch, x => onCmp x fun l ops rs => !lastMarks ops rs && chkE c a l && chkCh c ch ops rs
  | .sub a i, x => onSub x fun y z => chkE c a y && chkE c i z && plainX z
  | .slice a lo hi, x => onSub x fun y z => onSlice z fun l h s => s.isNone && chkE c a y && optE (chkE c lo) (isNoneE lo) l && optE (chkE c hi) (isNoneE hi) h
  | .call f es, x => onCallN x fun y xs => some1 xs && isGlob c y f && c.fns.contains f && chkEs c es xs
  | .isinst a t, x => onCallN x fun y xs => two xs fun z n => onName n fun u => isGlob c y "isinstance" && noStar z && chkE c a z && isGlob c u (tyName t) && plainTy t
  | .len a, x => onCallN x fun y xs => one xs fun z => isGlob c y "len" && noStar z && chkE c a z
  | .sum a, x => onCallN x fun y xs => one xs fun z => isGlob c y "sum" && noStar z && chkE c a z
  | .max2 a b, x => onCallN x fun y xs => two xs fun z u => isGlob c y "max" && noStar z && noStar u && chkE c a z && chkE c b u
  | .min2 a b, x => onCallN x fun y xs => two xs fun z u => isGlob c y "min" && noStar z && noStar u && chkE c a z && chkE c b u
  | .maxl a, x => false
  | .maxd a d, x => false
  | .strOf a, x => false
  | .intOf a, x => onCallN x fun y xs => one xs fun z => isGlob c y "int" && noStar z && chkE c a z
  | .tupOf a, x => false
  | .listOf it, x => onCallN x fun y xs => one xs fun z => isGlob c y "list" && noStar z && listable it && chkI c it z && !c.hot
  | .join s a, x => onCall x fun g xs ks pos => ks.isEmpty && one xs fun z => onAttr g fun o n ap => decide (n = Str.ofString "join") && noStar z && ap.endLine == pos.line && chkE c s o && isStrE s && chkE c a z
  | .get d k v, x => onCall x fun g xs ks cp => ks.isEmpty && two xs fun z u => onAttr g fun o n ap => decide (n = Str.ofString "get") && ap.endLine == cp.line && baseX o && noStar z && noStar u && chkE c d o && chkE c k z && chkE c v u
  | .dict0, x => false
  | .attr a n, x => onAttr x fun o m _ => decide (m = Str.ofString n) && attrB o && chkE c a o
  | .new f es, x => onCallN x fun y xs => some1 xs && isGlob c y f && chkEs c es xs
  | .comp elt t it, x => onLC x fun y gs sc => one gs fun g => g.ifs.isEmpty && decide (g.is_async = 0) && (match tgNames g.target with
      | some xs => tgIs c.used t xs && tableOk c xs sc && chkTg (inner c xs sc.names) t g.target && !isSetX g.iter && ezOk it g.target && chkI c it g.iter && chkE (inner c xs sc.names) elt y
      | none => false)
  | .compIf elt t it cond, x => false
  | .isexc a t, x => onCallN x fun y xs => two xs fun z n => onName n fun u => isGlob c y "isinstance" && noStar z && chkE c a z && isGlob c u t && (c.xs.contains t || decide (t = "ValueError"))
  | .only a, x => false
noncomputable def chkEs (c : Sc) : Es → List Expr → Bool
  | .nil, xs => xs.isEmpty
  | .cons e es, xs => (match xs with
    | x :: r => noStar x && chkE c e x && chkEs c es r
    | [] => false)
noncomputable def chkCh (c : Sc) : Ch → List CmpOp → List Expr → Bool
  | .one op e, ops, xs => one ops fun o => one xs fun x => decide (o = copOf op) && chkE c e x
  | .more op e ch, ops, xs => (match ops, xs with
    | o :: ops, x :: xs => some1 ops && some1 xs && decide (o = copOf op) && chkE c e x && chkCh c ch ops xs
    | _, _ => false)
noncomputable def chkI (c : Sc) : It → Expr → Bool
  | .seq e, x => chkE c e x
  | .rev e, x => onCallN x fun y xs => one xs fun z => isGlob c y "reversed" && noStar z && chkE c e z
  | .range1 a, x => onCallN x fun y xs => one xs fun z => isGlob c y "range" && noStar z && chkE c a z
  | .range2 a b, x => false
  | .range3 a b d, x => false
  | .enum a, x => false
  | .keys e, x => chkE c e x && !c.hot
  | .zip a b, x => false
end

noncomputable def isCompE (x : E) : Bool := by cases x with
  | comp => exact true
  | compIf => exact true
  | _ => exact false
noncomputable def isComp (x : Expr) : Bool := by cases x with
  | ListComp => exact true
  | SetComp => exact true
  | DictComp => exact true
  | _ => exact false
/-- values that the compiler does not fold, or surely does -/
noncomputable def tupOk (x : Expr) : Bool := by cases x with
  | Tuple vs _ _ => exact !(vs.all (constantsAlone 8)) || vs.all (foldedForSure 8)
  | _ => exact true
noncomputable def isNameX (x : Expr) : Bool := by cases x with
  | Name => exact true
  | _ => exact false
theorem isNameX_inv {x : Expr} (h : isNameX x = true) : ∃ y p, x = .Name y p := by cases x <;> first | exact ff h | exact ⟨_, _, rfl⟩
/-! shapes of statements -/
noncomputable def saExpr (x : Stmt) : Option (Is (fun q : Expr × Pos => Stmt.Expr (q.1) (q.2)) x) := by cases x with
  | Expr y p => exact some ⟨(y, p), rfl⟩
  | _ => exact none
noncomputable def onExpr (x : Stmt) (f : Expr → Bool) : Bool := on1 (saExpr x) (fun q => q.1.1) f
noncomputable def saIfS (x : Stmt) : Option (Is (fun q : Expr × (List Stmt) × (List Stmt) × Pos => Stmt.If (q.1) (q.2.1) (q.2.2.1) (q.2.2.2)) x) := by cases x with
  | If y a b p => exact some ⟨(y, a, b, p), rfl⟩
  | _ => exact none
noncomputable def onIfS (x : Stmt) (f : Expr → (List Stmt) → (List Stmt) → Bool) : Bool := on3 (saIfS x) (fun q => q.1.1) (fun q => q.1.2.1) (fun q => q.1.2.2.1) f
noncomputable def saAssign (x : Stmt) : Option (Is (fun q : (List Expr) × Expr × Pos => Stmt.Assign (q.1) (q.2.1) (q.2.2)) x) := by cases x with
  | Assign ts y p => exact some ⟨(ts, y, p), rfl⟩
  | _ => exact none
noncomputable def kAssign (x : Stmt) (f : (List Expr) → Expr → Bool) : Bool := on2 (saAssign x) (fun q => q.1.1) (fun q => q.1.2.1) f
noncomputable def saWhile (x : Stmt) : Option (Is (fun q : Expr × (List Stmt) × (List Stmt) × Pos => Stmt.While (q.1) (q.2.1) (q.2.2.1) (q.2.2.2)) x) := by cases x with
  | While y a b p => exact some ⟨(y, a, b, p), rfl⟩
  | _ => exact none
noncomputable def kWhile (x : Stmt) (f : Expr → (List Stmt) → (List Stmt) → Bool) : Bool := on3 (saWhile x) (fun q => q.1.1) (fun q => q.1.2.1) (fun q => q.1.2.2.1) f
noncomputable def saFor (x : Stmt) : Option (Is (fun q : Expr × Expr × (List Stmt) × (List Stmt) × Pos => Stmt.For (q.1) (q.2.1) (q.2.2.1) (q.2.2.2.1) (q.2.2.2.2)) x) := by cases x with
  | For t y a b p => exact some ⟨(t, y, a, b, p), rfl⟩
  | _ => exact none
noncomputable def kFor (x : Stmt) (f : Expr → Expr → (List Stmt) → (List Stmt) → Bool) : Bool := on4 (saFor x) (fun q => q.1.1) (fun q => q.1.2.1) (fun q => q.1.2.2.1) (fun q => q.1.2.2.2.1) f
noncomputable def saRet (x : Stmt) : Option (Is (fun q : (Option Expr) × Pos => Stmt.Return (q.1) (q.2)) x) := by cases x with
  | Return y p => exact some ⟨(y, p), rfl⟩
  | _ => exact none
noncomputable def kRet (x : Stmt) (f : (Option Expr) → Bool) : Bool := on1 (saRet x) (fun q => q.1.1) f
noncomputable def onAssign (x : Stmt) (f : Expr → Expr → Bool) : Bool := kAssign x fun ts y => one ts fun t => f t y
noncomputable def onWhile (x : Stmt) (f : Expr → List Stmt → Bool) : Bool := kWhile x fun y a b => b.isEmpty && f y a
noncomputable def onFor (x : Stmt) (f : Expr → Expr → List Stmt → Bool) : Bool := kFor x fun t y a b => b.isEmpty && f t y a
noncomputable def onRet (x : Stmt) (f : Expr → Bool) : Bool := kRet x fun y => optE f false y
theorem onExpr_inv {x : Stmt} {f : Expr → Bool} (h : onExpr x f = true) : ∃ y p, x = .Expr y p ∧ f y = true := let ⟨q, h⟩ := on1_inv h; ⟨_, _, q.2, h⟩
theorem onExpr_elim {x : Stmt} {f : Expr → Bool} {P : Stmt → Prop} (h : onExpr x f = true) (kk_ : ∀ y p, f y = true → P (.Expr y p)) : P x := by
  obtain ⟨y, p, rfl, c_⟩ := onExpr_inv h; exact kk_ _ _ c_
theorem onIfS_inv {x : Stmt} {f : Expr → (List Stmt) → (List Stmt) → Bool} (h : onIfS x f = true) : ∃ y a b p, x = .If y a b p ∧ f y a b = true := let ⟨q, h⟩ := on3_inv h; ⟨_, _, _, _, q.2, h⟩
theorem onIfS_elim {x : Stmt} {f : Expr → (List Stmt) → (List Stmt) → Bool} {P : Stmt → Prop} (h : onIfS x f = true) (kk_ : ∀ y a b p, f y a b = true → P (.If y a b p)) : P x := by
  obtain ⟨y, a, b, p, rfl, c_⟩ := onIfS_inv h; exact kk_ _ _ _ _ c_
theorem kAssign_inv {x : Stmt} {f : (List Expr) → Expr → Bool} (h : kAssign x f = true) : ∃ ts y p, x = .Assign ts y p ∧ f ts y = true := let ⟨q, h⟩ := on2_inv h; ⟨_, _, _, q.2, h⟩
theorem kWhile_inv {x : Stmt} {f : Expr → (List Stmt) → (List Stmt) → Bool} (h : kWhile x f = true) : ∃ y a b p, x = .While y a b p ∧ f y a b = true := let ⟨q, h⟩ := on3_inv h; ⟨_, _, _, _, q.2, h⟩
theorem kFor_inv {x : Stmt} {f : Expr → Expr → (List Stmt) → (List Stmt) → Bool} (h : kFor x f = true) : ∃ t y a b p, x = .For t y a b p ∧ f t y a b = true := let ⟨q, h⟩ := on4_inv h; ⟨_, _, _, _, _, q.2, h⟩
theorem kRet_inv {x : Stmt} {f : (Option Expr) → Bool} (h : kRet x f = true) : ∃ y p, x = .Return y p ∧ f y = true := let ⟨q, h⟩ := on1_inv h; ⟨_, _, q.2, h⟩
noncomputable def saRaise (x : Stmt) : Option (Is (fun q : Expr × Pos => Stmt.Raise (some q.1) none q.2) x) := by cases x with
  | Raise e c p => exact (match e, c with
    | some y, none => some ⟨(y, p), rfl⟩
    | _, _ => none)
  | _ => exact none
noncomputable def onRaise (x : Stmt) (f : Expr → Bool) : Bool := on1 (saRaise x) (fun q => q.1.1) f
noncomputable def saTry (x : Stmt) : Option (Is (fun q : List Stmt × Expr × Option Str × List Stmt × Pos × Pos => Stmt.Try q.1 [.ExceptHandler (some q.2.1) q.2.2.1 q.2.2.2.1 q.2.2.2.2.1] [] [] q.2.2.2.2.2) x) := by cases x with
  | Try b hs o fi p => exact (match hs, o, fi with
    | [.ExceptHandler (some t) n h q], [], [] => some ⟨(b, t, n, h, q, p), rfl⟩
    | _, _, _ => none)
  | _ => exact none
noncomputable def onTry (x : Stmt) (f : List Stmt → Expr → Option Str → List Stmt → Bool) : Bool := on4 (saTry x) (fun q => q.1.1) (fun q => q.1.2.1) (fun q => q.1.2.2.1) (fun q => q.1.2.2.2.1) f
section
variable {x : Stmt}
theorem onRaise_inv {f : Expr → Bool} (h : onRaise x f = true) : ∃ y p, x = .Raise (some y) none p ∧ f y = true := let ⟨q, h⟩ := on1_inv h; ⟨_, _, q.2, h⟩
theorem onRaise_elim {f : Expr → Bool} {P : Stmt → Prop} (h : onRaise x f = true) (kk_ : ∀ y p, f y = true → P (.Raise (some y) none p)) : P x := by
  obtain ⟨y, p, rfl, c_⟩ := onRaise_inv h; exact kk_ _ _ c_
theorem onTry_inv {f : List Stmt → Expr → Option Str → List Stmt → Bool} (h : onTry x f = true) : ∃ b t n hs q p, x = .Try b [.ExceptHandler (some t) n hs q] [] [] p ∧ f b t n hs = true := let ⟨q, h⟩ := on4_inv h; ⟨_, _, _, _, _, _, q.2, h⟩
theorem onTry_elim {f : List Stmt → Expr → Option Str → List Stmt → Bool} {P : Stmt → Prop} (h : onTry x f = true) (kk_ : ∀ b t n hs q p, f b t n hs = true → P (.Try b [.ExceptHandler (some t) n hs q] [] [] p)) : P x := by
  obtain ⟨b, t, n, hs, q, p, rfl, c_⟩ := onTry_inv h; exact kk_ _ _ _ _ _ _ c_
theorem onAssign_inv {f : Expr → Expr → Bool} (h : onAssign x f = true) : ∃ t y p, x = .Assign [t] y p ∧ f t y = true := by
  obtain ⟨ts, y, p, rfl, k⟩ := kAssign_inv h
  obtain ⟨t, rfl, k3⟩ := one_inv k
  exact ⟨_, _, _, rfl, k3⟩
theorem onAssign_elim {f : Expr → Expr → Bool} {P : Stmt → Prop} (h : onAssign x f = true) (kk_ : ∀ t y p, f t y = true → P (.Assign [t] y p)) : P x := by
  obtain ⟨t, y, p, rfl, c_⟩ := onAssign_inv h; exact kk_ _ _ _ c_
theorem onWhile_inv {f : Expr → List Stmt → Bool} (h : onWhile x f = true) : ∃ y a p, x = .While y a [] p ∧ f y a = true := by
  obtain ⟨y, a, b, p, rfl, k⟩ := kWhile_inv h
  obtain ⟨h1, h2⟩ := (Bool.and_eq_true _ _).mp k
  cases b with
  | nil => exact ⟨_, _, _, rfl, h2⟩
  | cons => exact ff h1
theorem onWhile_elim {f : Expr → List Stmt → Bool} {P : Stmt → Prop} (h : onWhile x f = true) (kk_ : ∀ y a p, f y a = true → P (.While y a [] p)) : P x := by
  obtain ⟨y, a, p, rfl, c_⟩ := onWhile_inv h; exact kk_ _ _ _ c_
theorem onFor_inv {f : Expr → Expr → List Stmt → Bool} (h : onFor x f = true) : ∃ t y a p, x = .For t y a [] p ∧ f t y a = true := by
  obtain ⟨t, y, a, b, p, rfl, k⟩ := kFor_inv h
  obtain ⟨h1, h2⟩ := (Bool.and_eq_true _ _).mp k
  cases b with
  | nil => exact ⟨_, _, _, _, rfl, h2⟩
  | cons => exact ff h1
theorem onFor_elim {f : Expr → Expr → List Stmt → Bool} {P : Stmt → Prop} (h : onFor x f = true) (kk_ : ∀ t y a p, f t y a = true → P (.For t y a [] p)) : P x := by
  obtain ⟨t, y, a, p, rfl, c_⟩ := onFor_inv h; exact kk_ _ _ _ _ c_
theorem onRet_inv {f : Expr → Bool} (h : onRet x f = true) : ∃ y p, x = .Return (some y) p ∧ f y = true := by
  obtain ⟨y, p, rfl, k⟩ := kRet_inv h
  cases y with
  | none => exact ff k
  | some y => exact ⟨_, _, rfl, k⟩
theorem onRet_elim {f : Expr → Bool} {P : Stmt → Prop} (h : onRet x f = true) (kk_ : ∀ y p, f y = true → P (.Return (some y) p)) : P x := by
  obtain ⟨y, p, rfl, c_⟩ := onRet_inv h; exact kk_ _ _ c_
end

mutual
noncomputable def chkA (c : Sc) : A → Expr → Bool
  | .pure e, x => chkE c e x
  | .thaw e, x => isFresh e && chkE c e x
  | .list as, x => onList x fun xs => chkAs c as xs
  | .dict, x => onDict0 x
  | .new f es, x => onCallN x fun y xs => some1 xs && isGlob c y f && chkEs c es xs
  | .callO _ _, _ => false
noncomputable def chkAs (c : Sc) : As → List Expr → Bool
  | .nil, xs => xs.isEmpty
  | .cons a as, xs => (match xs with
    | x :: r => noStar x && chkA c a x && chkAs c as r
    | [] => false)
end

noncomputable def isCif (e : E) : Bool := by cases e with
  | compIf => exact true
  | _ => exact false
/-- targets of assignments -/
noncomputable def tgAsg (t : Tg) : Bool := by cases t with
  | var => exact true
  | tup => exact false
/-- comprehensions that a name is set to -/
noncomputable def okOwn (a : A) : Bool := by cases a with
  | pure e => exact !isCif e
  | thaw e => exact !isCompE e
  | _ => exact true
/-- the name that a handler binds -/
noncomputable def chkX (c : Sc) : Option Nat → Option Str → Bool
  | some i, some n => isVar c n i && decide (c.names.lookup n = some .local)
  | none, none => true
  | _, _ => false
mutual
noncomputable def chkS (c : Sc) : S → Stmt → Bool
  | .expr e, x => onExpr x fun y => chkE c e y && !isComp y
  | .assign t e, x => onAssign x fun tg y => chkTg c t tg && tupOk y && chkE c e y && okOwn (.pure e) && tgAsg t
  | .own i a, x => onAssign x fun tg y => chkN c i tg && chkA c a y && okOwn a
  | .append e a, x => onExpr x fun y => onCall y fun g xs ks cp => ks.isEmpty && one xs fun z => onAttr g fun o n ap => decide (n = Str.ofString "append") && ap.endLine == cp.line && baseX o && noStar z && chkE c e o && chkA c a z
  | .pop t e, x => onAssign x fun tg y => onCall y fun g xs ks cp => ks.isEmpty && xs.isEmpty && onAttr g fun o n ap => chkTg c t tg && decide (n = Str.ofString "pop") && ap.endLine == cp.line && isNameX o && chkE c e o
  | .setitem e k v, x => false
  | .setkey e k v, x => onAssign x fun tg y => onSub tg fun o i => chkE c e o && chkE c k i && chkE c v y && !isComp y
  | .setlast e v, x => false
  | .setattr e n v, x => onAssign x fun tg y => onAttr tg fun o m _ => decide (m = Str.ofString n) && isNameX o && chkE c e o && chkE c v y && !isComp y
  | .ite t a b, x => onIfS x fun y bs os => chkE c t y && chkB c a bs && chkB c b os
  | .while t b, x => onWhile x fun y bs => chkE c t y && chkB c b bs
  | .for t it b, x => onFor x fun tg y bs => chkTg c t tg && chkI c it y && !isSetX y && ezOk it tg && chkB c b bs && !c.dead
  | .ret e, x => onRet x fun y => chkE c e y
  | .retO e, x => false
  | .raise _ _, _ => false
  | .rz k m, x => onRaise x fun y => onCallN y fun n xs => one xs fun z => isGlob c n k && c.xs.contains k && noStar z && chkE c m z && !c.dead
  | .tryEx e k i h, x => onTry x fun bs t n hs => one bs fun b => onExpr b (fun y => chkE c e y && !isComp y) && onName t (fun u => isGlob c u k) && c.xs.contains k && some1 hs && chkX c i n && chkB { c with hot := true, dead := c.hot } h hs
noncomputable def chkB (c : Sc) : Bl → List Stmt → Bool
  | .nil, xs => xs.isEmpty
  | .cons s b, xs => (match xs with
    | x :: r => chkS c s x && chkB c b r
    | [] => false)
end

noncomputable def fnSc (fns xs : List String) (hot : Bool) (hots : List String) (fn : Fn) (d : DefRec) : Sc := ⟨(fn.vars.map Str.ofString).zip (List.range fn.vars.length), fn.vars.length, d.scope.names, fns, xs, hot, hots, false⟩
noncomputable def plainParams (a : Arguments) : Bool := a.posonlyargs.isEmpty && a.vararg.isNone && a.kwonlyargs.isEmpty && a.kwarg.isNone && a.defaults.isEmpty && a.kw_defaults.isEmpty
noncomputable def chkFn (fns xs : List String) (hot : Bool) (hots : List String) (fn : Fn) (d : DefRec) : Bool :=
  plainParams d.params && decide (d.params.args.map (·.arg) = (fn.vars.map Str.ofString).take fn.np) && decide (fn.np ≤ fn.vars.length) && decide (d.params.args.length = fn.np) &&
  decide (fn.vars.map Str.ofString).Nodup && (fn.vars.map Str.ofString).all (fun x => canStore (fnSc fns xs hot hots fn d) x && !(x == ("__classdict__" : Str))) && decide (d.scope.kind = .function) && !d.scope.isGenerator && !d.scope.isCoroutine &&
  d.scope.names.all (fun p => !decide (p.2 = .free)) && decide (d.scope.names.map (·.1)).Nodup && decide (fn.vars.length ≤ fn.nv) && chkB (fnSc fns xs hot hots fn d) fn.body d.body

noncomputable def iniC : V → Const → Bool
  | .none, k => decide (k = .none)
  | .int i, k => decide (k = .int i)
  | _, _ => false
noncomputable def chkIv (names : List Str) : Ini → Expr → Bool
  | .arg i, y => onName y fun z => decide (names[i + 1]? = some z)
  | .val v, y => onConst y fun k => iniC v k
noncomputable def chkFs (self : Str) (names : List Str) : List (String × Ini) → List Stmt → Bool
  | [], xs => xs.isEmpty
  | f :: fs, xs => (match xs with
    | x :: r => onAssign x (fun tg y => onAttr tg fun o a _ => onName o (fun z => decide (z = self)) && decide (a = Str.ofString f.1) && chkIv names f.2 y) && chkFs self names fs r
    | [] => false)
noncomputable def chkIni (n : Nat) (fs : List (String × Ini)) (params : Arguments) (body : List Stmt) (scope : Scope) : Bool :=
  plainParams params && decide (params.args.length = n + 1) && decide (params.args.map (·.arg)).Nodup && (params.args.map (·.arg)).all (fun y => decide (scope.names.lookup y = some .local) && !(y == ("__debug__" : Str))) && decide (scope.kind = .function) && !scope.isGenerator && !scope.isCoroutine &&
  scope.names.all (fun p => !decide (p.2 = .cell)) && decide (fs.map fun f => Str.ofString f.1).Nodup && decide (fs.length ≤ 50) && (match params.args with
    | a :: _ => chkFs a.arg (params.args.map (·.arg)) fs body
    | [] => false)

end Mine
end

section
set_option autoImplicit false
namespace Mine
open PySem

noncomputable abbrev HK (h h' : Heap) : Prop := ∀ b o, h.get? b = some o → h'.get? b = some o
theorem HK.refl (h : Heap) : HK h h := fun _ _ e => e
theorem HK.trans {a b c : Heap} (x : HK a b) (y : HK b c) : HK a c := fun p o e => y p o (x p o e)
theorem HK.push (h : Heap) (o : Obj) : HK h (h.push o) := fun _ _ e => Heap.get?_push_of_some _ e

/-- all that stood stands; the frames' own things, but for their slots -/
noncomputable def HW (Z : Addr → Prop) (h h' : Heap) : Prop := ∀ b o, h.get? b = some o → (¬ Z b → h'.get? b = some o) ∧ ∃ sl, h'.get? b = some { o with slots := sl }
theorem HW.of {Z : Addr → Prop} {h h' : Heap} (k : HK h h') : HW Z h h' := fun b o e => ⟨fun _ => k b o e, o.slots, k b o e⟩
theorem HW.trans {Z : Addr → Prop} {a b c : Heap} (x : HW Z a b) (y : HW Z b c) : HW Z a c := fun p o e => ⟨fun n => (y p o ((x p o e).1 n)).1 n, let ⟨_, e1⟩ := (x p o e).2; let ⟨sl, e2⟩ := (y p _ e1).2; ⟨sl, e2⟩⟩
theorem HW.ext {Z : Addr → Prop} {h h' : Heap} (k : HW Z h h') {b : Addr} (e : h'.get? b = none) : h.get? b = none := by
  cases q : h.get? b with
  | none => rfl
  | some o => obtain ⟨sl, e'⟩ := (k b o q).2; rw [e] at e'; cases e'
theorem HW.less {Z Z' : Addr → Prop} {h h' : Heap} (k : HW Z' h h') (s : ∀ b, Z' b → Z b ∨ h.get? b = none) : HW Z h h' := fun b o e => ⟨fun n => (k b o e).1 fun q => (s b q).elim n fun q => (by rw [q] at e; cases e), (k b o e).2⟩
theorem HW.ext1 {Z : Addr → Prop} {h h' h'' : Heap} {C : Addr} (k : HW Z h h') (hC : h.get? C = none) (e : ∀ b o, b ≠ C → h'.get? b = some o → h''.get? b = some o) : HW Z h h'' := fun b o q =>
  have nb : b ≠ C := fun i => by rw [i, hC] at q; cases q
  ⟨fun n => e b o nb ((k b o q).1 n), let ⟨sl, q'⟩ := (k b o q).2; ⟨sl, e b _ nb q'⟩⟩
/-- nothing that stood is turned -/
inductive Kp (Z : Addr → Prop) (s s' : Shared) : Prop
  | mk (h' tk) : s' = { s with heap := h', toks := tk } → HW Z s.heap h' → Kp Z s s'
section
variable {Z : Addr → Prop}
theorem Kp.of {s : Shared} {h' : Heap} {t : Nat} (k : HK s.heap h') : Kp Z s { s with heap := h', toks := t } := ⟨h', t, rfl, .of k⟩
theorem Kp.ofW {s : Shared} {h' : Heap} {t : Nat} (k : HW Z s.heap h') : Kp Z s { s with heap := h', toks := t } := ⟨h', t, rfl, k⟩
theorem Kp.ofH {s : Shared} {h' : Heap} (k : HK s.heap h') : Kp Z s { s with heap := h' } := ⟨h', s.toks, rfl, .of k⟩
theorem Kp.refl (s : Shared) : Kp Z s s := ⟨s.heap, s.toks, rfl, .of (HK.refl _)⟩
theorem Kp.trans {a b c : Shared} (x : Kp Z a b) (y : Kp Z b c) : Kp Z a c := by
  obtain ⟨h1, t1, rfl, k1⟩ := x
  obtain ⟨h2, t2, rfl, k2⟩ := y
  exact ⟨h2, t2, rfl, k1.trans k2⟩
theorem Kp.hw {a b : Shared} (x : Kp Z a b) : HW Z a.heap b.heap := by
  obtain ⟨h1, t1, rfl, k1⟩ := x; exact k1
theorem Kp.tok (s : Shared) (t : Nat) : Kp Z s { s with toks := t } := ⟨s.heap, t, rfl, .of (HK.refl _)⟩
end

inductive Place where
  | loc (L : Addr) (x : Str)
  | cell (c : Addr)
noncomputable def Place.addr : Place → Addr
  | .loc L _ => L
  | .cell c => c
noncomputable def Place.ok (h : Heap) : Place → Prop
  | .loc L _ => ∃ m, h.Ns L m
  | .cell c => ∃ v, h.IsCell c v
noncomputable def Place.has (h : Heap) (v : Value) : Place → Prop
  | .loc L x => ∃ m, h.Ns L m ∧ m x = some v
  | .cell c => h.IsCell c (some v)
theorem Place.ok.kz {Z : Addr → Prop} {h h' : Heap} {p : Place} (x : p.ok h) (k : HW Z h h') : p.ok h' := by
  cases p with
  | loc L x => obtain ⟨m, o, es, ep, e, d, r⟩ := x; obtain ⟨sl, e'⟩ := (k _ _ e).2; exact ⟨m, _, es, ep, e', d, r⟩
  | cell c => obtain ⟨v, o, e, d⟩ := x; obtain ⟨sl, e'⟩ := (k _ _ e).2; exact ⟨v, _, e', d⟩
theorem Place.has.kz {Z : Addr → Prop} {h h' : Heap} {p : Place} {v : Value} (x : p.has h v) (k : HW Z h h') : p.has h' v := by
  cases p with
  | loc L x => obtain ⟨m, ⟨o, es, ep, e, d, r⟩, q⟩ := x; obtain ⟨sl, e'⟩ := (k _ _ e).2; exact ⟨m, ⟨_, es, ep, e', d, r⟩, q⟩
  | cell c => obtain ⟨o, e, d⟩ := x; obtain ⟨sl, e'⟩ := (k _ _ e).2; exact ⟨_, e', d⟩

/-- a text that the run can bear -/
noncomputable def SOk (s : Str) : Prop := s.length ≤ sizeLine ∧ ∀ c ∈ s.cps.toList, c < 0x110000
theorem SOk.append {s t : Str} (a : SOk s) (b : SOk t) (h : s.length + t.length ≤ sizeLine) : SOk (s ++ t) := by
  refine ⟨by show (s.cps ++ t.cps).size ≤ sizeLine; rw [Array.size_append]; exact h, fun c hc => ?_⟩
  have e : (s ++ t).cps = s.cps ++ t.cps := rfl
  rw [e, Array.toList_append, List.mem_append] at hc
  exact hc.elim (a.2 c) (b.2 c)
theorem SOk.sub {s : Str} {l : List Nat} (a : SOk s) (hl : l.length ≤ s.length) (hm : ∀ c ∈ l, c ∈ s.cps.toList) : SOk ⟨l.toArray⟩ :=
  ⟨by show l.toArray.size ≤ sizeLine; rw [List.size_toArray]; exact Nat.le_trans hl a.1, fun c hc => a.2 c (hm c (by simpa using hc))⟩
theorem SOk.one {s : Str} {c : Nat} (a : SOk s) (hc : c ∈ s.cps.toList) : SOk ⟨#[c]⟩ :=
  ⟨by show 1 ≤ sizeLine; decide, fun d hd => by simp at hd; subst hd; exact a.2 d hc⟩
theorem SOk.strOk {s : Str} (a : SOk s) : PyData.strOk s = true := by
  unfold PyData.strOk
  rw [← Array.all_toList, List.all_eq_true]
  exact fun c hc => decide_eq_true (a.2 c hc)

/-- a thing of an own class, whose names lie in a -/
inductive InsX (h : Heap) (x a C : Addr) : Prop
  | mk (o) : h.get? x = some o → o.cls = .ref C → (∀ c, o.data ≠ .cls c) → o.dict = some a → a ≠ x → InsX h x a C
noncomputable def NsOf (h : Heap) (a : Addr) (ns : List String) (xs : List Value) : Prop := ns.length = xs.length ∧ (ns.map Str.ofString).Nodup ∧ ns.length ≤ 50 ∧ h.Ns1 a (fun y => ((ns.map Str.ofString).zip xs).lookup y)
theorem InsX.at {h h' : Heap} {x a C : Addr} (i : InsX h x a C) (k : ∀ o, h.get? x = some o → h'.get? x = some o) : InsX h' x a C := let ⟨o, h1, h2, h3, h4, h5⟩ := i; ⟨o, k o h1, h2, h3, h4, h5⟩
theorem NsOf.at {h h' : Heap} {a : Addr} {ns : List String} {xs : List Value} (i : NsOf h a ns xs) (k : ∀ o, h.get? a = some o → h'.get? a = some o) : NsOf h' a ns xs := ⟨i.1, i.2.1, i.2.2.1, i.2.2.2.at k⟩
theorem InsX.ne {h : Heap} {x a C : Addr} (i : InsX h x a C) (e : h.get? x = none) : False := by obtain ⟨o, h1, _, _, _, _⟩ := i; rw [e] at h1; cases h1
theorem NsOf.ne {h : Heap} {a : Addr} {ns : List String} {xs : List Value} (i : NsOf h a ns xs) (e : h.get? a = none) : False := by obtain ⟨_, _, _, o, es, ep, h1, _⟩ := i; rw [e] at h1; cases h1
/-- an exception, of the class that a name of the text's bears -/
inductive ExcG (h : Heap) (x : Addr) (c : String) : Prop
  | mk (k o vs m) : h.get? x = some o → o.cls = .ref k → o.data = .fields vs → h.Ns mainGlobals m → m (Str.ofString c) = some (.ref k) → ExcG h x c
theorem ExcG.at {h h' : Heap} {x : Addr} {c : String} (i : ExcG h x c) (k1 : ∀ o, h.get? x = some o → h'.get? x = some o) (k2 : ∀ o, h.get? mainGlobals = some o → h'.get? mainGlobals = some o) : ExcG h' x c :=
  let ⟨k, o, vs, m, h1, h2, h3, ⟨o', es, ep, h4, r⟩, h5⟩ := i; ⟨k, o, vs, m, k1 o h1, h2, h3, ⟨o', es, ep, k2 o' h4, r⟩, h5⟩
theorem ExcG.ne {h : Heap} {x : Addr} {c : String} (i : ExcG h x c) : h.get? x ≠ none ∧ h.get? mainGlobals ≠ none :=
  let ⟨k, o, vs, m, h1, h2, h3, ⟨o', es, ep, h4, r⟩, h5⟩ := i; ⟨(fun e => by rw [h1] at e; cases e), (fun e => by rw [h4] at e; cases e)⟩
mutual
inductive RV (N : Addr → Prop) (h : Heap) : V → Value → Prop
  | none : RV N h .none .none
  | bool (b) : RV N h (.bool b) (.bool b)
  | int (i t) : RV N h (.int i) (.int i t)
  | str (s t) : SOk s → RV N h (.str s) (.str s t)
  | tup {a xs n vs} : ¬ N a → IsT h a xs n → xs.size ≤ sizeLine → RVs N h vs xs.toList → RV N h (.tup vs) (.ref a)
  | lst {a xs n vs} : ¬ N a → IsL h a xs n → xs.size ≤ sizeLine → RVs N h vs xs.toList → RV N h (.lst vs) (.ref a)
  | ref (a) : RV N h (.ref a) (.ref a)
  | iref {x a C ns} : ¬ N x → InsX h x a C → RV N h (.iref C ns a) (.ref x)
  | inst {x a C ns xs vs} : ¬ N x → ¬ N a → InsX h x a C → NsOf h a ns xs → RVs N h vs xs → RV N h (.inst C ns vs) (.ref x)
  | exc {x c} : ¬ N x → ¬ N mainGlobals → ExcG h x c → RV N h (.exc c) (.ref x)
inductive RVs (N : Addr → Prop) (h : Heap) : List V → List Value → Prop
  | nil : RVs N h [] []
  | cons {v vs x xs} : RV N h v x → RVs N h vs xs → RVs N h (v :: vs) (x :: xs)
end

theorem RV.gen {N N' : Addr → Prop} {h h' : Heap} (hN : ∀ b, N' b → N b ∨ h.get? b = Option.none) (hk : ∀ b o, ¬ N b → h.get? b = some o → h'.get? b = some o) {v : V} {x : Value} (r : RV N h v x) : RV N' h' v x :=
  RV.rec (motive_1 := fun v x _ => RV N' h' v x) (motive_2 := fun vs xs _ => RVs N' h' vs xs) .none .bool .int .str
    (fun a1 a2 a6 _ i => .tup (fun q => (hN _ q).elim a1 fun e => by rw [a2] at e; cases e) (hk _ _ a1 a2) a6 i)
    (fun a1 a2 a6 _ i => .lst (fun q => (hN _ q).elim a1 fun e => by rw [a2] at e; cases e) (hk _ _ a1 a2) a6 i) .ref
    (fun a1 a2 => .iref (fun q => (hN _ q).elim a1 fun e => a2.ne e) (a2.at fun o e => hk _ _ a1 e))
    (fun a1 a2 a3 a5 _ i => .inst (fun q => (hN _ q).elim a1 fun e => a3.ne e) (fun q => (hN _ q).elim a2 fun e => a5.ne e) (a3.at fun o e => hk _ _ a1 e) (a5.at fun o e => hk _ _ a2 e) i)
    (fun a1 a2 a3 => .exc (fun q => (hN _ q).elim a1 fun e => a3.ne.1 e) (fun q => (hN _ q).elim a2 fun e => a3.ne.2 e) (a3.at (fun o e => hk _ _ a1 e) fun o e => hk _ _ a2 e))
    .nil (fun _ _ i j => .cons i j) r
theorem RVs.gen {N N' : Addr → Prop} {h h' : Heap} (hN : ∀ b, N' b → N b ∨ h.get? b = Option.none) (hk : ∀ b o, ¬ N b → h.get? b = some o → h'.get? b = some o) {vs : List V} {xs : List Value} (r : RVs N h vs xs) : RVs N' h' vs xs :=
  RVs.rec (motive_1 := fun _ _ _ => True) (motive_2 := fun vs xs _ => RVs N' h' vs xs) trivial (fun _ => trivial) (fun _ _ => trivial) (fun _ _ _ => trivial) (fun _ _ _ _ _ => trivial) (fun _ _ _ _ _ => trivial) (fun _ => trivial)
    (fun _ _ => trivial) (fun _ _ _ _ _ _ => trivial)
    (fun _ _ _ => trivial)
    .nil (fun a _ _ j => .cons (a.gen hN hk) j) r
/-- by turns, along a row -/
theorem RVs.ind {N : Addr → Prop} {h : Heap} {P : List V → List Value → Prop} (h0 : P [] []) (h1 : ∀ {v : V} {vs : List V} {x : Value} {xs : List Value}, RV N h v x → P vs xs → P (v :: vs) (x :: xs)) {vs : List V} {xs : List Value} (r : RVs N h vs xs) : P vs xs :=
  RVs.rec (motive_1 := fun _ _ _ => True) (motive_2 := fun vs xs _ => P vs xs) trivial (fun _ => trivial) (fun _ _ => trivial) (fun _ _ _ => trivial) (fun _ _ _ _ _ => trivial) (fun _ _ _ _ _ => trivial) (fun _ => trivial)
    (fun _ _ => trivial) (fun _ _ _ _ _ _ => trivial)
    (fun _ _ _ => trivial)
    h0 (fun a _ _ j => h1 a j) r
/-- what must be shown of each value that stands for v -/
noncomputable def RVc (N : Addr → Prop) (h : Heap) (P : Value → Prop) : V → Prop
  | .none => P .none
  | .bool b => P (.bool b)
  | .int i => ∀ t, P (.int i t)
  | .str s => ∀ t, SOk s → P (.str s t)
  | .tup vs => ∀ a xs n, ¬ N a → IsT h a xs n → xs.size ≤ sizeLine → RVs N h vs xs.toList → P (.ref a)
  | .lst vs => ∀ a xs n, ¬ N a → IsL h a xs n → xs.size ≤ sizeLine → RVs N h vs xs.toList → P (.ref a)
  | .ref a => P (.ref a)
  | _ => False
theorem RV.elim {N : Addr → Prop} {h : Heap} {v : V} {x : Value} {P : Value → Prop} (r : RV N h v x) (k : RVc N h P v) : P x := by
  cases r with
  | none => exact k
  | bool b => exact k
  | int i t => exact k t
  | str s t o => exact k t o
  | tup h1 h2 h3 h4 => exact k _ _ _ h1 h2 h3 h4
  | lst h1 h2 h3 h4 => exact k _ _ _ h1 h2 h3 h4
  | ref a => exact k
  | _ => exact False.elim k
noncomputable def RVsc (N : Addr → Prop) (h : Heap) (P : List Value → Prop) : List V → Prop
  | [] => P []
  | v :: vs => ∀ x xs, RV N h v x → RVs N h vs xs → P (x :: xs)
theorem RVs.elim {N : Addr → Prop} {h : Heap} {vs : List V} {xs : List Value} {P : List Value → Prop} (r : RVs N h vs xs) (k : RVsc N h P vs) : P xs := by
  cases r with
  | nil => exact k
  | cons a b => exact k _ _ a b
theorem int_val {N : Addr → Prop} {h : Heap} {v : V} {x : Value} {W : Int → Prop} {P : Value → Prop} (hW : intP v W) (r : RV N h v x) (k : ∀ i t, W i → P (.int i t)) : P x := by
  cases r with
  | int i t => exact k i t hW
  | _ => exact False.elim hW
theorem str_val {N : Addr → Prop} {h : Heap} {v : V} {x : Value} {W : Str → Prop} {P : Value → Prop} (hW : strP v W) (r : RV N h v x) (k : ∀ i t, SOk i → W i → P (.str i t)) : P x := by
  cases r with
  | str i t o => exact k i t o hW
  | _ => exact False.elim hW
theorem RVs.keeps {N : Addr → Prop} {h h' : Heap} {v : List V} {x : List Value} (r : RVs N h v x) (k : HK h h') : RVs N h' v x := r.gen (fun _ q => .inl q) fun b o _ e => k b o e
theorem RV.less {N N' : Addr → Prop} {h : Heap} {v : V} {x : Value} (r : RV N h v x) (k : ∀ b, N' b → N b) : RV N' h v x := r.gen (fun b q => .inl (k b q)) fun _ _ _ e => e
theorem RVs.less {N N' : Addr → Prop} {h : Heap} {v : List V} {x : List Value} (r : RVs N h v x) (k : ∀ b, N' b → N b) : RVs N' h v x := r.gen (fun b q => .inl (k b q)) fun _ _ _ e => e
theorem RVs.length {N : Addr → Prop} {h : Heap} {vs : List V} {xs : List Value} (r : RVs N h vs xs) : vs.length = xs.length := r.ind (P := fun vs xs => vs.length = xs.length) rfl fun _ e => congrArg (· + 1) e
theorem RVs.size {N : Addr → Prop} {h : Heap} {vs : List V} {xs : Array Value} (r : RVs N h vs xs.toList) : vs.length = xs.size := by
  rw [r.length]; exact Array.length_toList
theorem RVs.get {N : Addr → Prop} {h : Heap} {vs : List V} {xs : List Value} (r : RVs N h vs xs) : ∀ (n : Nat) {v : V}, vs[n]? = some v → ∃ x, xs[n]? = some x ∧ RV N h v x :=
  r.ind (P := fun vs xs => ∀ (n : Nat) {v : V}, vs[n]? = some v → ∃ x, xs[n]? = some x ∧ RV N h v x) (fun _ _ e => by cases e) fun a i n v e => by
    cases n with
    | zero => cases e; exact ⟨_, rfl, a⟩
    | succ n => exact i n e
theorem RVs.append {N : Addr → Prop} {h : Heap} {vs ws : List V} {xs ys : List Value} (r : RVs N h vs xs) (b : RVs N h ws ys) : RVs N h (vs ++ ws) (xs ++ ys) :=
  r.ind (P := fun vs xs => RVs N h (vs ++ ws) (xs ++ ys)) b fun a i => .cons a i

/-- a row of a table -/
noncomputable def dent (hsh : HFn) (x : List At × Addr × Value) : DictEntry := ⟨hsh x.1, .ref x.2.1, x.2.2⟩
inductive RO (hsh : HFn) (N : Addr → Prop) (h : Heap) (a : Addr) : AO → Prop
  | list {xs n vs} : IsL h a xs n → xs.size ≤ sizeLine → RVs N h vs xs.toList → RO hsh N h a (.list vs)
  | inst {c ns xs vs} : NsOf h a ns xs → RVs N h vs xs → RO hsh N h a (.inst c ns vs)
  | dict {es : Array DictEntry} {ep : Nat} {kvs : List (List At × V)} {xs : List (List At × Addr × Value)} : h.get? a = some { cls := .type "dict", dict := none, data := .dict es ep, slots := #[] } → es.toList = xs.map (dent hsh) → (xs.map (·.1)).Nodup → xs.length ≤ sizeLine → kvs.map (·.1) = xs.map (·.1) →
      (∀ x ∈ xs, RV N h (keyV x.1) (.ref x.2.1)) → RVs N h (kvs.map (·.2)) (xs.map (·.2.2)) → (a == sysModules) = false → RO hsh N h a (.dict kvs)

theorem RO.gen {hsh : HFn} {N N' : Addr → Prop} {h h' : Heap} {a : Addr} {o : AO} (hN : ∀ b, N' b → N b ∨ h.get? b = none) (hk : ∀ b o, ¬ N b → h.get? b = some o → h'.get? b = some o)
    (ha : ∀ o, h.get? a = some o → h'.get? a = some o) : RO hsh N h a o → RO hsh N' h' a o
  | .list a1 a5 a4 => .list (ha _ a1) a5 (a4.gen hN hk)
  | .inst a1 a2 => .inst (a1.at ha) (a2.gen hN hk)
  | .dict a1 a2 a3 a4 a5 a6 a7 a8 => .dict (ha _ a1) a2 a3 a4 a5 (fun x hx => (a6 x hx).gen hN hk) (a7.gen hN hk) a8

noncomputable def NN (H : AH) (Sys : Addr → Prop) : Addr → Prop := fun a => H a ≠ none ∨ Sys a
/-- the frames of the run -/
noncomputable def ZA (A : Around) (b : Addr) : Prop := ∃ l e, A.frames = some l ∧ e ∈ l ∧ e.frame = some b
noncomputable def FZ (A : Around) (Sys : Addr → Prop) : Addr → Prop := fun b => ZA A b ∧ Sys b
theorem RV.kz {H : AH} {A : Around} {Sys : Addr → Prop} {h h' : Heap} {v : V} {x : Value} (r : RV (NN H Sys) h v x) (k : HW (FZ A Sys) h h') : RV (NN H Sys) h' v x := r.gen (fun _ q => .inl q) fun b o n e => (k b o e).1 fun q => n (.inr q.2)
theorem RVs.kz {H : AH} {A : Around} {Sys : Addr → Prop} {h h' : Heap} {v : List V} {x : List Value} (r : RVs (NN H Sys) h v x) (k : HW (FZ A Sys) h h') : RVs (NN H Sys) h' v x := r.gen (fun _ q => .inl q) fun b o n e => (k b o e).1 fun q => n (.inr q.2)

structure Sim (hsh : HFn) (T : Heap → Prop) (lay : Nat → Option Place) (Sys Z : Addr → Prop) (base : Heap) (st : St) (h : Heap) : Prop where
  keep : HW Z base h
  zs : ∀ b, Z b → Sys b
  top : ∃ b0, T b0 ∧ HK b0 base ∧ ∀ a, (Sys a ∨ st.B a ≠ none) → b0.get? a = none
  vals : ∀ i v p, st.ρ[i]? = some (some v) → lay i = some p → ∃ val, p.has h val ∧ RV (NN st.H Sys) h v val
  ok : ∀ i p, lay i = some p → p.ok h
  inj : ∀ i j p, lay i = some p → lay j = some p → i = j
  sys : ∀ i p, lay i = some p → Sys p.addr ∧ base.get? p.addr = none ∧ st.H p.addr = none
  objs : ∀ a o, st.H a = some o → RO hsh (NN st.H Sys) h a o
  own : ∀ a, st.H a ≠ none → st.B a = none → base.get? a = none
  live : ∀ a, Sys a → h.get? a ≠ none
  ent : ∀ a, st.B a ≠ none → ∃ o, base.get? a = some o
  dis : ∀ a, Sys a → st.H a = none

theorem HW.but {Z : Addr → Prop} {b h h' : Heap} {a : Addr} (x : HW Z b h) (ha : b.get? a = none) (k : ∀ c, c ≠ a → h'.get? c = h.get? c) : HW Z b h' := fun c o e => by
  rw [k c (fun q => by rw [q, ha] at e; cases e)]; exact x c o e
theorem RO.kz {hsh : HFn} {H : AH} {Sys Z : Addr → Prop} {h h' : Heap} {a : Addr} {o : AO} (zs : ∀ b, Z b → Sys b) (r : RO hsh (NN H Sys) h a o) (n : ¬ Sys a) (k : HW Z h h') : RO hsh (NN H Sys) h' a o := r.gen (fun _ q => .inl q) (fun b o n e => (k b o e).1 fun q => n (.inr (zs b q))) (fun o e => (k a o e).1 fun q => n (zs a q))
theorem Sim.kz {hsh : HFn} {T : Heap → Prop} {lay : Nat → Option Place} {Sys Z : Addr → Prop} {base : Heap} {st : St} {h h' : Heap} (x : Sim hsh T lay Sys Z base st h) (k : HW Z h h') : Sim hsh T lay Sys Z base st h' where
  keep := x.keep.trans k
  zs := x.zs
  top := x.top
  vals := fun i v p a b => let ⟨val, c, d⟩ := x.vals i v p a b; ⟨val, c.kz k, d.gen (fun _ q => .inl q) fun b o n e => (k b o e).1 fun q => n (.inr (x.zs b q))⟩
  ok := fun i p a => (x.ok i p a).kz k
  inj := x.inj
  sys := x.sys
  objs := fun a o e => (x.objs a o e).kz x.zs (fun q => by rw [x.dis a q] at e; cases e) k
  own := x.own
  live := fun a q e => x.live a q (k.ext e)
  ent := x.ent
  dis := x.dis
theorem Sim.topH {hsh : HFn} {T : Heap → Prop} {lay : Nat → Option Place} {Sys Z : Addr → Prop} {base : Heap} {st : St} {h : Heap} (S : Sim hsh T lay Sys Z base st h) : ∃ b0, T b0 ∧ HK b0 h ∧ ∀ a, NN st.H Sys a → b0.get? a = none :=
  let ⟨b0, t, k0, n⟩ := S.top; ⟨b0, t, fun b o e => (S.keep b o (k0 b o e)).1 (fun q => by rw [n b (.inl (S.zs b q))] at e; cases e), fun a q => q.elim (fun q => by
    by_cases e : st.B a = none
    · exact (HW.of (Z := Sys) k0).ext (S.own a q e)
    · exact n a (.inr e)) fun q => n a (.inl q)⟩
theorem RO.exists {hsh : HFn} {N : Addr → Prop} {h : Heap} {a : Addr} {o : AO} (r : RO hsh N h a o) : ∃ ob, h.get? a = some ob := by
  cases r with
  | list a1 _ _ => exact ⟨_, a1⟩
  | inst a1 _ => obtain ⟨_, _, _, o, es, ep, h1, _⟩ := a1; exact ⟨_, h1⟩
  | dict a1 => exact ⟨_, a1⟩

theorem RO.nofields {hsh : HFn} {N : Addr → Prop} {h : Heap} {a : Addr} {o : AO} (r : RO hsh N h a o) {ob : Obj} (e : h.get? a = some ob) {vs : Array Value} (q : ob.data = .fields vs) : False := by
  cases r with
  | list a1 _ _ => rw [a1] at e; cases e; cases q
  | inst a1 _ => obtain ⟨_, _, _, o, es, ep, h1, d, _⟩ := a1; rw [h1] at e; cases e; rw [d] at q; cases q
  | dict a1 => rw [a1] at e; cases e; cases q
theorem Sim.fresh {hsh : HFn} {T : Heap → Prop} {lay : Nat → Option Place} {Sys Z : Addr → Prop} {base : Heap} {st : St} {h : Heap} (x : Sim hsh T lay Sys Z base st h) {a : Addr} (e : h.get? a = none) : st.H a = none := by
  cases q : st.H a with
  | none => rfl
  | some o =>
    obtain ⟨ob, e'⟩ := (x.objs a o q).exists
    rw [e] at e'; cases e'


theorem IsT.isTuple {h : Heap} {a : Addr} {xs : Array Value} {n : Nat} (x : IsT h a xs n) : h.IsTuple a xs := ⟨_, x, rfl, n, rfl⟩
theorem IsT.isTup {h : Heap} {a : Addr} {xs : Array Value} {n : Nat} (x : IsT h a xs n) : PyProof.Rows.IsTup h a xs := ⟨_, x, rfl, n, rfl⟩

/-- a row of the frame's or a frozen one -/
theorem one_arg {N : Addr → Prop} {h : Heap} {u : V} {vals : List Value} {P : List Value → Prop} (r : RVs N h [u] vals) (k : ∀ x, RV N h u x → P [x]) : P vals := by
  apply RVs.elim r; intro x xs r1 r2
  apply RVs.elim r2
  exact k x r1
theorem seq_dep {hsh : HFn} {H : AH} {Sys : Addr → Prop} {h : Heap} (HO : ∀ a o, H a = some o → RO hsh (NN H Sys) h a o) {v : V} {x : Value} {vs : List V} {P : Value → Prop} (r : RV (NN H Sys) h v x) (e : seqL H v = some vs)
    (k : ∀ a xs n, IsL h a xs n → xs.size ≤ sizeLine → RVs (NN H Sys) h vs xs.toList → ¬ NN H Sys a ∨ (a ∈ depsV v ∧ H a ≠ none) → P (.ref a)) : P x := by
  cases v with
  | lst ws =>
    cases (show some ws = some vs from e)
    apply RV.elim r; intro a xs n a1 a2 a3 a4
    exact k _ _ _ a2 a3 a4 (.inl a1)
  | ref a =>
    apply RV.elim r
    have e : (match H a with
      | some (.list vs) => some vs
      | _ => none) = some vs := e
    split at e
    · rename_i ws hw
      cases e
      cases HO a _ hw with
      | list b1 b2 b3 => exact k _ _ _ b1 b2 b3 (.inr ⟨List.mem_singleton.mpr rfl, by rw [hw]; exact nofun⟩)
    · cases e
  | _ => cases e
theorem seq_val {hsh : HFn} {H : AH} {Sys : Addr → Prop} {h : Heap} (HO : ∀ a o, H a = some o → RO hsh (NN H Sys) h a o) {v : V} {x : Value} {vs : List V} {P : Value → Prop} (r : RV (NN H Sys) h v x) (e : seqL H v = some vs)
    (k : ∀ a xs n, IsL h a xs n → xs.size ≤ sizeLine → RVs (NN H Sys) h vs xs.toList → P (.ref a)) : P x := seq_dep HO r e fun a xs n h1 h2 h3 _ => k a xs n h1 h2 h3

end Mine
end

section
set_option autoImplicit false
namespace Mine
open PySem

/-- the frames that stand -/
noncomputable def FrOk (A : Around) (Sys : Addr → Prop) (h : Heap) : Prop := (∀ a, Sys a → h.get? a ≠ none) ∧ ∃ l, A.frames = some l ∧ ∀ e ∈ l, e.scope.kind ≠ .module ∧ ∃ L o, e.frame = some L ∧ Sys L ∧ h.get? L = some o ∧ ∀ vs, o.data ≠ .fields vs
theorem FrOk.kz {A : Around} {Sys Z : Addr → Prop} {h h' : Heap} (x : FrOk A Sys h) (k : HW Z h h') : FrOk A Sys h' :=
  let ⟨lv, l, e, f⟩ := x; ⟨fun a q e => lv a q (k.ext e), l, e, fun v hv => let ⟨h1, L, o, h2, h3, h4, h5⟩ := f v hv; let ⟨sl, h6⟩ := (k L o h4).2; ⟨h1, L, _, h2, h3, h6, h5⟩⟩
/-- the exception that is handled, if one is, has none behind it -/
noncomputable def HdOk (A : Around) (Sys : Addr → Prop) (h : Heap) : Prop := A.handled = none ∨ ∃ y o vs, A.handled = some (.ref y) ∧ ¬ Sys y ∧ h.get? y = some o ∧ o.data = .fields vs ∧ vs[2]? = some .none
theorem HdOk.kz {A : Around} {Sys : Addr → Prop} {h h' : Heap} (x : HdOk A Sys h) (k : HW (FZ A Sys) h h') : HdOk A Sys h' := x.imp id fun ⟨y, o, vs, h1, h2, h3, h4⟩ => ⟨y, o, vs, h1, h2, (k y o h3).1 fun q => h2 q.2, h4⟩
/-- new since h, and none of the frames' things -/
noncomputable def Nw (Sys : Addr → Prop) (h : Heap) (a : Addr) : Prop := h.get? a = none ∧ ¬ Sys a
theorem Nw.before {Sys Z : Addr → Prop} {h₀ h : Heap} {a : Addr} (n : Nw Sys h a) (k : HW Z h₀ h) : Nw Sys h₀ a := ⟨k.ext n.1, n.2⟩
/-- an exception under way, new since h, and its traceback -/
inductive Tb (Sys : Addr → Prop) (h h' : Heap) (x : Addr) (P : Value → Prop) (vs : Array Value) : Prop
  | mk (T oT ts fl) : vs[1]? = some (.ref T) → Nw Sys h T → T ≠ x → h'.get? T = some oT → oT.data = .fields ts → ts[3]? = some fl → P fl → Tb Sys h h' x P vs
inductive Fly (Sys : Addr → Prop) (h : Heap) (x C : Addr) (ctx : Value) (P : Value → Prop) (h' : Heap) : Prop
  | mk (nw : Nw Sys h x) (oe vs) : h'.get? x = some oe → oe.cls = .ref C → oe.data = .fields vs → vs[2]? = some ctx → Tb Sys h h' x P vs → Fly Sys h x C ctx P h'
inductive Fly0 (Sys : Addr → Prop) (h : Heap) (x C : Addr) (ctx : Value) (h' : Heap) : Prop
  | mk (nw : Nw Sys h x) (oe vs) : h'.get? x = some oe → oe.cls = .ref C → oe.data = .fields vs → vs[2]? = some ctx → vs[1]? = some .none → Fly0 Sys h x C ctx h'
theorem Fly.before {Sys Sys' : Addr → Prop} {h₀ h h' : Heap} {x C : Addr} {ctx : Value} {P : Value → Prop} (f : Fly Sys h x C ctx P h') (k : ∀ a, Nw Sys h a → Nw Sys' h₀ a) : Fly Sys' h₀ x C ctx P h' :=
  let ⟨a, oe, vs, b, c, d, e, T, oT, ts, fl, t1, t2, t3, t4, t5, t6, t7⟩ := f; ⟨k _ a, oe, vs, b, c, d, e, T, oT, ts, fl, t1, k _ t2, t3, t4, t5, t6, t7⟩
theorem Fly0.before {Sys Sys' : Addr → Prop} {h₀ h h' : Heap} {x C : Addr} {ctx : Value} (f : Fly0 Sys h x C ctx h') (k : ∀ a, Nw Sys h a → Nw Sys' h₀ a) : Fly0 Sys' h₀ x C ctx h' :=
  let ⟨a, oe, vs, b, c, d, e, g⟩ := f; ⟨k _ a, oe, vs, b, c, d, e, g⟩
theorem Fly.mono {Sys : Addr → Prop} {h h' : Heap} {x C : Addr} {ctx : Value} {P P' : Value → Prop} (f : Fly Sys h x C ctx P h') (k : ∀ v, P v → P' v) : Fly Sys h x C ctx P' h' :=
  let ⟨a, oe, vs, b, c, d, e, T, oT, ts, fl, t1, t2, t3, t4, t5, t6, t7⟩ := f; ⟨a, oe, vs, b, c, d, e, T, oT, ts, fl, t1, t2, t3, t4, t5, t6, k _ t7⟩

section
variable {M : Model} {A : Around} {E : Value → Shared → Prop} {s : Shared} {Sys : Addr → Prop} {h : Heap} {x C : Addr} {ctx : Value} {env : Env} {L : Addr}

theorem upd_hw {Z : Addr → Prop} {h h' : Heap} {b : Addr} {f : Obj → Obj} (k : HW Z h h') (hb : h.get? b = none) : HW Z h (h'.update b f) := fun c o e => by
  have : c ≠ b := fun q => by rw [q, hb] at e; cases e
  rw [Heap.get?_update_other _ _ (Ne.symm this)]; exact k c o e

/-- a new entry of the traceback, the old one shut -/
theorem entry_fly {oe : Obj} {vs : Array Value} {head : Value} {b : Bool} {Q : Unit → Shared → Prop} (hfr : FrOk A Sys s.heap) (hA : ∃ e l, A.frames = some (e :: l) ∧ e.frame = some L) (hf : env.frame = some L) (hk : HW (FZ A Sys) h s.heap) (hn : Nw Sys h x)
    (he : s.heap.get? x = some oe) (hc : oe.cls = .ref C) (hd : oe.data = .fields vs) (h2 : vs[2]? = some ctx) (h1 : 1 < vs.size)
    (hQ : ∀ h', HW (FZ A Sys) h h' → FrOk A Sys h' → Fly Sys h x C ctx (· = rawInt L) h' → Q () { s with heap := h' }) :
    wpAny M A (do setField (.ref x) 1 (← EntryCells.newEntry head (← frameOf env) .none (rawInt L) .none (← entryPlaceOf L b))) Q E s := by
  obtain ⟨e₀, l, hA, he₀⟩ := hA
  have ef : frameOf env = frameOf e₀ := by unfold frameOf; rw [hf, he₀]
  rw [ef]
  obtain ⟨lv, l', hl', hfs⟩ := hfr
  rw [hA] at hl'; cases hl'
  have e0 : ∀ b, Heap.get? ({ s.heap with objs := #[] } : Heap) b = none := fun b => Heap.get?_none_of_le (Nat.zero_le _)
  have hff : ∀ l : List Env, (∀ e ∈ l, e.scope.kind ≠ .module ∧ ∃ L o, e.frame = some L ∧ Sys L ∧ s.heap.get? L = some o ∧ ∀ vs, o.data ≠ .fields vs) → s.heap.FunFrames { s.heap with objs := #[] } l ∧ ∀ b ∈ l.filterMap (·.frame), (∃ e ∈ l, e.frame = some b) ∧ Sys b := by
    intro l
    induction l with
    | nil => exact fun _ => ⟨trivial, fun b hb => by simp at hb⟩
    | cons e l ih =>
      intro q
      obtain ⟨g1, L', o, g2, g3, g4, g5⟩ := q e (List.mem_cons_self ..)
      obtain ⟨i1, i2⟩ := ih fun e he => q e (List.mem_cons_of_mem _ he)
      refine ⟨⟨g1, ⟨L', o, g2, e0 _, g4, g5⟩, i1⟩, fun b hb => ?_⟩
      rw [List.filterMap_cons, g2] at hb
      rcases List.mem_cons.mp hb with rfl | hb
      · exact ⟨⟨e, List.mem_cons_self .., g2⟩, g3⟩
      · obtain ⟨⟨e', h1, h2⟩, h3⟩ := i2 b hb; exact ⟨⟨e', List.mem_cons_of_mem _ h1, h2⟩, h3⟩
  obtain ⟨f1, f2⟩ := hff _ hfs
  refine wpAny_bind (wpAny_frameOf_fun hA f1 he₀ fun h₁ hs₁ => ?_)
  have k₁ : HW (FZ A Sys) s.heap h₁ := fun b o e => ⟨fun n => (hs₁.2.1 b fun q => n (let ⟨⟨e', h1, h2⟩, h3⟩ := f2 b q; ⟨⟨_, e', hA, h1, h2⟩, h3⟩)).trans e, hs₁.2.2 b o e⟩
  refine wpAny_bind (wpAny_entryPlaceOf fun pl hpl => ?_)
  unfold EntryCells.newEntry newFields
  refine wpAny_bind (wpAny_newObj_type ?_ (hpl.sizeOk5 _ _ _ _ _))
  have he₁ : h₁.get? x = some oe := (k₁ x oe he).1 fun q => hn.2 q.2
  generalize hO : ({ cls := .type "traceback", dict := none, data := .fields ([head, .ref L, .none, rawInt L, .none] ++ (if pl.isEmpty then List.replicate 6 Value.none else pl)).toArray } : Obj) = O
  have he₂ := Heap.get?_push_of_some (h := h₁) O he₁
  refine wpAny_setField he₂ hd h1 ?_
  have hTx : h₁.objs.size ≠ x := Nat.ne_of_gt (Heap.lt_size he₁)
  have hd₃ := Obj.data_mapFields hd (·.setIfInBounds 1 (Value.ref h₁.objs.size))
  have kk : HW (FZ A Sys) h ((h₁.push O).update x (Obj.mapFields (·.setIfInBounds 1 (Value.ref h₁.objs.size)))) := upd_hw ((hk.trans k₁).trans (.of (HK.push _ _))) hn.1
  have hfree : O.isFreed = false := by subst hO; rfl
  refine hQ _ kk ?_ ⟨hn, _, _, Heap.get?_update_self _ he₂ (Obj.isFreed_of_fields hd₃), (Obj.cls_mapFields _ _).trans hc, hd₃, by rw [Array.getElem?_setIfInBounds_ne (by decide)]; exact h2, h₁.objs.size, O, _, _, by simp [h1], ⟨(hk.trans k₁).ext (Heap.get?_none_of_le (Nat.le_refl _)), fun q => lv _ q (k₁.ext (Heap.get?_none_of_le (Nat.le_refl _)))⟩, hTx, ?_, by rw [← hO], by first | (simp; done) | (rcases hpl with rfl | ⟨_, _, _, _, _, _, _, rfl⟩ <;> simp), rfl⟩
  · refine ⟨fun a q e => lv a q (k₁.ext ?_), _, hA, fun e he => ?_⟩
    · have hax : a ≠ x := fun q' => hn.2 (q' ▸ q)
      rw [Heap.get?_update_other _ _ (Ne.symm hax)] at e
      exact (HW.of (Z := Sys) (HK.push _ _)).ext e
    obtain ⟨g1, L', o, g2, g3, g4, g5⟩ := hfs e he
    obtain ⟨sl, g6⟩ := (k₁ L' o g4).2
    refine ⟨g1, L', { o with slots := sl }, g2, g3, ?_, g5⟩
    rw [Heap.get?_update_other _ _ (fun q : x = L' => hn.2 (by rw [q]; exact g3))]
    exact Heap.get?_push_of_some _ g6
  · rw [Heap.get?_update_other _ _ (Ne.symm hTx)]
    exact Heap.get?_push_size _ hfree

theorem note_fly0 {Q : Unit → Shared → Prop} (hfr : FrOk A Sys s.heap) (hA : ∃ e l, A.frames = some (e :: l) ∧ e.frame = some L) (hf : env.frame = some L) (hk : HW (FZ A Sys) h s.heap) (F : Fly0 Sys h x C ctx s.heap)
    (hQ : ∀ h', HW (FZ A Sys) h h' → FrOk A Sys h' → Fly Sys h x C ctx (· = rawInt L) h' → Q () { s with heap := h' }) : wpAny M A (noteFrame (.ref x) env) Q E s := by
  obtain ⟨hn, oe, vs, he, hc, hd, h2, h1⟩ := F
  unfold noteFrame
  simp only [hf]
  refine wpAny_bind (wpAny_field he hd h1 ?_)
  rw [if_neg (by decide)]
  exact entry_fly hfr hA hf hk hn he hc hd h2 (Array.getElem?_eq_some_iff.mp h1).1 hQ

theorem note_fly {Q : Unit → Shared → Prop} (hfr : FrOk A Sys s.heap) (hA : ∃ e l, A.frames = some (e :: l) ∧ e.frame = some L) (hf : env.frame = some L) (hk : HW (FZ A Sys) h s.heap) (F : Fly Sys h x C ctx (fun v => v = .none ∨ v = rawInt L) s.heap)
    (hQ : ∀ h', HW (FZ A Sys) h h' → FrOk A Sys h' → Fly Sys h x C ctx (· = rawInt L) h' → Q () { s with heap := h' }) : wpAny M A (noteFrame (.ref x) env) Q E s := by
  obtain ⟨hn, oe, vs, he, hc, hd, h2, T, oT, ts, fl, t1, t2, t3, t4, t5, t6, t7⟩ := F
  unfold noteFrame
  simp only [hf]
  refine wpAny_bind (wpAny_field he hd t1 ?_)
  rw [if_pos (show (Value.ref T != Value.none) = true from by simp)]
  refine wpAny_bind (wpAny_field t4 t5 t6 ?_)
  rcases t7 with rfl | rfl
  · rw [if_neg (show ¬ ((Value.none == rawInt L) = true) from by simp [rawInt])]
    refine wpAny_bind (wpAny_setField t4 t5 (Array.getElem?_eq_some_iff.mp t6).1 ?_)
    have hx : (s.heap.update T (Obj.mapFields (·.setIfInBounds 3 Value.none))).get? x = some oe := (Heap.get?_update_other _ _ t3).trans he
    refine entry_fly (s := { s with heap := s.heap.update T (Obj.mapFields (·.setIfInBounds 3 Value.none)) }) ?_ hA hf (upd_hw hk t2.1) hn hx hc hd h2 (Array.getElem?_eq_some_iff.mp t1).1 hQ
    obtain ⟨lv, l, e, f⟩ := hfr
    refine ⟨fun a q e => lv a q ((Heap.get?_update_other _ _ (fun q' : T = a => t2.2 (q' ▸ q))).symm.trans e), l, e, fun v hv => ?_⟩
    obtain ⟨g1, L', o, g2, g3, g4, g5⟩ := f v hv
    exact ⟨g1, L', o, g2, g3, (Heap.get?_update_other _ _ (fun q : T = L' => t2.2 (by rw [q]; exact g3))).trans g4, g5⟩
  · rw [if_pos (show (rawInt L == rawInt L) = true from by simp)]
    exact wpAny_pure (hQ _ hk hfr ⟨hn, oe, vs, he, hc, hd, h2, T, oT, ts, _, t1, t2, t3, t4, t5, t6, rfl⟩)

theorem set_fly {P : Value → Prop} {Q : Unit → Shared → Prop} (hfr : FrOk A Sys s.heap) (hk : HW (FZ A Sys) h s.heap) (F : Fly Sys h x C ctx P s.heap)
    (hQ : ∀ h', HW (FZ A Sys) h h' → FrOk A Sys h' → Fly Sys h x C ctx (· = .none) h' → Q () { s with heap := h' }) : wpAny M A (setFlight (.ref x) none) Q E s := by
  obtain ⟨hn, oe, vs, he, hc, hd, h2, T, oT, ts, fl, t1, t2, t3, t4, t5, t6, t7⟩ := F
  have hz : 3 < ts.size := (Array.getElem?_eq_some_iff.mp t6).1
  unfold setFlight
  refine wpAny_bind (wpAny_field he hd t1 ?_)
  rw [if_pos (show (Value.ref T != Value.none) = true from by simp)]
  refine wpAny_setField t4 t5 hz (hQ _ (upd_hw hk t2.1) ?_ ⟨hn, oe, vs, (Heap.get?_update_other _ _ t3).trans he, hc, hd, h2, T, _, _, _, t1, t2, t3, Heap.get?_update_self _ t4 (Obj.isFreed_of_fields (Obj.data_mapFields t5 _)), Obj.data_mapFields t5 _, by simp [hz], rfl⟩)
  obtain ⟨lv, l, e, f⟩ := hfr
  refine ⟨fun a q e => lv a q ((Heap.get?_update_other _ _ (fun q' : T = a => t2.2 (q' ▸ q))).symm.trans e), l, e, fun v hv => ?_⟩
  obtain ⟨g1, L', o, g2, g3, g4, g5⟩ := f v hv
  exact ⟨g1, L', o, g2, g3, (Heap.get?_update_other _ _ (fun q : T = L' => t2.2 (by rw [q]; exact g3))).trans g4, g5⟩
theorem back_fly {P : Value → Prop} {Q : Unit → Shared → Prop} (hfr : FrOk A Sys s.heap) (hf : env.frame = some L) (hk : HW (FZ A Sys) h s.heap) (F : Fly Sys h x C ctx P s.heap)
    (hQ : ∀ h', HW (FZ A Sys) h h' → FrOk A Sys h' → Fly Sys h x C ctx (· = rawInt L) h' → Q () { s with heap := h' }) : wpAny M A (do
    if (← field (.ref x) 1) == .none then unsupported "frame.own-activation:exception-without-traceback"
    setFlight (.ref x) env.frame) Q E s := by
  obtain ⟨hn, oe, vs, he, hc, hd, h2, T, oT, ts, fl, t1, t2, t3, t4, t5, t6, t7⟩ := F
  have hz : 3 < ts.size := (Array.getElem?_eq_some_iff.mp t6).1
  refine wpAny_bind (wpAny_field he hd t1 ?_)
  rw [if_neg (show ¬ ((Value.ref T == Value.none) = true) from by simp)]
  show wpAny M A (setFlight (.ref x) env.frame) Q E s
  unfold setFlight
  rw [hf]
  refine wpAny_bind (wpAny_field he hd t1 ?_)
  rw [if_pos (show (Value.ref T != Value.none) = true from by simp)]
  refine wpAny_setField t4 t5 hz (hQ _ (upd_hw hk t2.1) ?_ ⟨hn, oe, vs, (Heap.get?_update_other _ _ t3).trans he, hc, hd, h2, T, _, _, _, t1, t2, t3, Heap.get?_update_self _ t4 (Obj.isFreed_of_fields (Obj.data_mapFields t5 _)), Obj.data_mapFields t5 _, by simp [hz], rfl⟩)
  obtain ⟨lv, l, e, f⟩ := hfr
  refine ⟨fun a q e => lv a q ((Heap.get?_update_other _ _ (fun q' : T = a => t2.2 (q' ▸ q))).symm.trans e), l, e, fun v hv => ?_⟩
  obtain ⟨g1, L', o, g2, g3, g4, g5⟩ := f v hv
  exact ⟨g1, L', o, g2, g3, (Heap.get?_update_other _ _ (fun q : T = L' => t2.2 (by rw [q]; exact g3))).trans g4, g5⟩
end
end Mine
end

section
set_option autoImplicit false
set_option maxRecDepth 100000
namespace Mine
open PySem

/-- what is known of the exception that is handled -/
noncomputable def Hq (A : Around) (h : Heap) : Prop := A.handled = none ∨ ∃ y o vs, A.handled = some (.ref y) ∧ h.get? y = some o ∧ o.data = .fields vs ∧ vs[2]? = some .none
theorem Hq.keeps {A : Around} {h h' : Heap} (x : Hq A h) (k : HK h h') : Hq A h' := x.imp id fun ⟨y, o, vs, h1, h2, h3⟩ => ⟨y, o, vs, h1, k _ _ h2, h3⟩
theorem Hq.upd {A : Around} {h : Heap} {it : Addr} {f : Obj → Obj} (x : Hq A h) (hy : ∀ y, A.handled = some (.ref y) → y ≠ it) : Hq A (h.update it f) := x.imp id fun ⟨y, o, vs, h1, h2, h3⟩ => ⟨y, o, vs, h1, (Heap.get?_update_other _ _ (Ne.symm (hy y h1))).trans h2, h3⟩
theorem entry_unchain : entryFor table "proto.unchain" = some Builtin.«proto.unchain» := entryFor_of_fast (by kernel_rfl)

section
variable {prog : Program} {w : World} {A : Around} {E : Value → Shared → Prop} {s : Shared}

/-- a new exception is raised, be another one handled or not -/
theorem raise_new {α : Type} {Q : α → Shared → Prop} {x : Addr} {ox : Obj} {vx : Array Value} (hq : Hq A s.heap) (hne : ∀ y, A.handled = some (.ref y) → y ≠ x) (hx : s.heap.get? x = some ox) (hd : ox.data = .fields vx) (hz : 2 < vx.size)
    (h0 : A.handled = none → E (.ref x) s) (h1 : ∀ y, A.handled = some (.ref y) → E (.ref x) { s with heap := s.heap.update x (Obj.mapFields (·.setIfInBounds 2 (.ref y))) }) : wpAny (model prog w) A (raiseNew (.ref x) : Sem α) Q E s := by
  unfold raiseNew
  refine wpAny_bind (wpAny_handled ?_)
  rcases hq with hn | ⟨y, o, vs, hy, ho, hdy, h2⟩
  · rw [hn]
    exact wpAny_bind (wpAny_pure (wpAny_throw (h0 hn)))
  · rw [hy]
    have hb : ((Value.ref y != Value.ref x) = true) := by simp [hne y hy]
    simp only [hb, if_true]
    refine wpAny_bind (wpAny_holding (wpAny_runValue (codeAny_builtin entry_unchain ?_)))
    unfold Builtin.«proto.unchain»
    refine wpAny_bind (wpAny_field ho hdy h2 ?_)
    show wpAny _ _ (ret .none) _ _ _
    refine wpAny_pure ?_
    refine wpAny_bind ?_
    show wpAny _ _ (setField (.ref x) 2 (.ref y)) _ _ _
    exact wpAny_setField hx hd hz (wpAny_throw (h1 y hy))

theorem stop_new {α : Type} {Q : α → Shared → Prop} (hq : Hq A s.heap) (hE : ∀ h' e, HK s.heap h' → (∃ o, h'.get? e = some o ∧ o.cls = .type "StopIteration") → E (.ref e) { s with heap := h' }) :
    wpAny (model prog w) A (do raiseNew (← newExc (.type "StopIteration") []) : Sem α) Q E s := by
  refine wpAny_bind ?_
  simp only [newExc, newTuple]
  refine wpAny_bind (wpAny_newObj_type ?_ (by size_fits))
  refine wpAny_bind (m := firstArgMember _ _) (wpAny_of_eq (a := Value.none) (by first | rfl | (simp only [firstArgMember]; rfl)) ?_)
  refine wpAny_newObj_type ?_ (by size_fits)
  generalize ({ cls := .type "tuple", dict := none, data := .seq ([] : List Value).toArray } : Obj) = o1
  have k : ∀ o2, HK s.heap ((s.heap.push o1).push o2) := fun o2 => (HK.push _ _).trans (HK.push _ _)
  refine raise_new (hq.keeps (k _)) ?_ (Heap.get?_push_size _ rfl) rfl (by rw [Array.size_append]; exact Nat.lt_of_lt_of_le (by decide : 2 < 6) (Nat.le_add_right _ _)) (fun _ => hE _ _ (k _) ⟨_, Heap.get?_push_size _ rfl, rfl⟩) fun y hy => hE _ _ ?_ ⟨_, Heap.get?_update_self _ (Heap.get?_push_size _ rfl) rfl, rfl⟩
  · intro y hy e
    rcases hq with hn | ⟨y', o, vs, hy', ho, _⟩
    · rw [hn] at hy; cases hy
    · rw [hy] at hy'; cases hy'
      have := Heap.lt_size ho
      rw [e, Heap.size_push] at this
      exact Nat.lt_irrefl _ (Nat.lt_of_succ_lt this)
  · intro b o e
    rw [Heap.get?_update_other _ _ (fun q => by
      have := Heap.lt_size e
      rw [← q, Heap.size_push] at this
      exact Nat.lt_irrefl _ (Nat.lt_of_succ_lt this))]
    exact k _ b o e

/-- the end of a walk -/
theorem list_end {it l : Addr} {i : Nat} {items : Array Value} {Q : Option Value → Shared → Prop} (hq : Hq A s.heap) (hy : ∀ y, A.handled = some (.ref y) → y ≠ it) (hit : s.heap.IsListIter it l i) (hl : s.heap.IsList l items) (hx : items[i]? = none)
    (hQ : ∀ h', Heap.ExtBut it s.heap h' → Q none { s with heap := h' }) : wpAny (model prog w) A (pyNext (.ref it)) Q E s := by
  obtain ⟨o, ho, hc, hd⟩ := id hit
  obtain ⟨ol, hol, _, nl, hdl⟩ := hl
  unfold pyNext
  refine wpAny_bind (wpAny_attempt (wpAny_callSpecial?_slot (name := Str.ofString "__next__") hit.typeIs slot_listiter_next (wpAny_call_entry slot_listiter_next hit.typeIs entry_listiter_next ?_ (args_listiter_next _))))
  show wpAny _ _ (field (.ref it) 0 >>= _) _ _ s
  refine wpAny_bind (wpAny_field ho hd (x := .ref l) rfl ?_)
  show wpAny _ _ (if (Value.ref l == Value.none) = true then _ else _) _ _ s
  rw [if_neg (show ¬ ((Value.ref l == Value.none) = true) from Bool.false_ne_true)]
  show wpAny _ _ (field (.ref it) 1 >>= _) _ _ s
  refine wpAny_bind (wpAny_field ho hd (x := .int i 0) rfl ?_)
  show wpAny _ _ (seqItems? (.ref l) >>= _) _ _ s
  refine wpAny_bind (wpAny_seqItems hol hdl ?_)
  simp only [Int.toNat_natCast, hx]
  refine wpAny_bind (wpAny_rule (wpAny_bind (wpAny_setField ho hd (by simp) ?_)))
  refine stop_new (A := A.in1) (hq.upd hy) fun h' e k he => ?_
  refine wpAny_bind (wpAny_isInstance (T := "StopIteration") (b := true) he isSubtype_stop ?_)
  exact wpAny_pure (hQ _ fun b o nb e => k b o ((Heap.get?_update_other _ _ (Ne.symm nb)).trans e))
theorem tuple_end {it l : Addr} {i : Nat} {items : Array Value} {Q : Option Value → Shared → Prop} (hq : Hq A s.heap) (hy : ∀ y, A.handled = some (.ref y) → y ≠ it) (hit : s.heap.IsTupleIter it l i) (hl : s.heap.IsTuple l items) (hx : items[i]? = none)
    (hQ : ∀ h', Heap.ExtBut it s.heap h' → Q none { s with heap := h' }) : wpAny (model prog w) A (pyNext (.ref it)) Q E s := by
  obtain ⟨o, ho, hc, hd⟩ := id hit
  obtain ⟨ol, hol, _, nl, hdl⟩ := hl
  unfold pyNext
  refine wpAny_bind (wpAny_attempt (wpAny_callSpecial?_slot (name := Str.ofString "__next__") hit.typeIs F.slot_tuple_iterator_next (wpAny_call_entry F.slot_tuple_iterator_next hit.typeIs F.entry_tuple_iterator_next ?_ (F.args_tuple_iterator_next_1 _))))
  show wpAny _ _ (field (.ref it) 0 >>= _) _ _ s
  refine wpAny_bind (wpAny_field ho hd (x := .ref l) rfl ?_)
  show wpAny _ _ (if (Value.ref l == Value.none) = true then _ else _) _ _ s
  rw [if_neg (show ¬ ((Value.ref l == Value.none) = true) from Bool.false_ne_true)]
  show wpAny _ _ (field (.ref it) 1 >>= _) _ _ s
  refine wpAny_bind (wpAny_field ho hd (x := .int i 0) rfl ?_)
  show wpAny _ _ (seqItems? (.ref l) >>= _) _ _ s
  refine wpAny_bind (wpAny_seqItems hol hdl ?_)
  simp only [Int.toNat_natCast, hx]
  refine wpAny_bind (wpAny_rule (wpAny_bind (wpAny_setField ho hd (by simp) ?_)))
  refine stop_new (A := A.in1) (hq.upd hy) fun h' e k he => ?_
  refine wpAny_bind (wpAny_isInstance (T := "StopIteration") (b := true) he isSubtype_stop ?_)
  exact wpAny_pure (hQ _ fun b o nb e => k b o ((Heap.get?_update_other _ _ (Ne.symm nb)).trans e))
theorem ascii_end {it : Addr} {x : Str} {t : Tok} {i : Nat} {Q : Option Value → Shared → Prop} (hq : Hq A s.heap) (hy : ∀ y, A.handled = some (.ref y) → y ≠ it) (hit : s.heap.IsStrIter it "str_ascii_iterator" x t i) (hx : x.cps[i]? = none)
    (hQ : ∀ h', Heap.ExtBut it s.heap h' → Q none { s with heap := h' }) : wpAny (model prog w) A (pyNext (.ref it)) Q E s := by
  obtain ⟨o, ho, hc, hd⟩ := id hit
  unfold pyNext
  refine wpAny_bind (wpAny_attempt (wpAny_callSpecial?_slot (name := Str.ofString "__next__") hit.typeIs F.slot_str_ascii_iterator_next (wpAny_call_entry F.slot_str_ascii_iterator_next hit.typeIs F.entry_str_ascii_iterator_next ?_ (F.args_str_ascii_iterator_next_1 _))))
  show wpAny _ _ (field (.ref it) 0 >>= _) _ _ s
  refine wpAny_bind (wpAny_field ho hd (x := .str x t) rfl ?_)
  show wpAny _ _ (field (.ref it) 1 >>= _) _ _ s
  refine wpAny_bind (wpAny_field ho hd (x := .int i 0) rfl ?_)
  simp only [Int.toNat_natCast, hx]
  refine wpAny_bind (wpAny_rule (wpAny_bind (wpAny_setField ho hd (by simp) (wpAny_bind (wpAny_letGo ?_)))))
  refine stop_new (A := A.in1) (hq.upd hy) fun h' e k he => ?_
  refine wpAny_bind (wpAny_isInstance (T := "StopIteration") (b := true) he isSubtype_stop ?_)
  exact wpAny_pure (hQ _ fun b o nb e => k b o ((Heap.get?_update_other _ _ (Ne.symm nb)).trans e))
theorem wide_end {it : Addr} {x : Str} {t : Tok} {i : Nat} {Q : Option Value → Shared → Prop} (hq : Hq A s.heap) (hy : ∀ y, A.handled = some (.ref y) → y ≠ it) (hit : s.heap.IsStrIter it "str_iterator" x t i) (hx : x.cps[i]? = none)
    (hQ : ∀ h', Heap.ExtBut it s.heap h' → Q none { s with heap := h' }) : wpAny (model prog w) A (pyNext (.ref it)) Q E s := by
  obtain ⟨o, ho, hc, hd⟩ := id hit
  unfold pyNext
  refine wpAny_bind (wpAny_attempt (wpAny_callSpecial?_slot (name := Str.ofString "__next__") hit.typeIs F.slot_str_iterator_next (wpAny_call_entry F.slot_str_iterator_next hit.typeIs F.entry_str_iterator_next ?_ (F.args_str_iterator_next_1 _))))
  show wpAny _ _ (field (.ref it) 0 >>= _) _ _ s
  refine wpAny_bind (wpAny_field ho hd (x := .str x t) rfl ?_)
  show wpAny _ _ (field (.ref it) 1 >>= _) _ _ s
  refine wpAny_bind (wpAny_field ho hd (x := .int i 0) rfl ?_)
  simp only [Int.toNat_natCast, hx]
  refine wpAny_bind (wpAny_rule (wpAny_bind (wpAny_setField ho hd (by simp) (wpAny_bind (wpAny_letGo ?_)))))
  refine stop_new (A := A.in1) (hq.upd hy) fun h' e k he => ?_
  refine wpAny_bind (wpAny_isInstance (T := "StopIteration") (b := true) he isSubtype_stop ?_)
  exact wpAny_pure (hQ _ fun b o nb e => k b o ((Heap.get?_update_other _ _ (Ne.symm nb)).trans e))
theorem range_end {it : Addr} {x left step : Int} {Q : Option Value → Shared → Prop} (hq : Hq A s.heap) (hit : IsRangeIter s.heap it x left step) (hleft : left ≤ 0)
    (hQ : ∀ h', Heap.ExtBut it s.heap h' → Q none { s with heap := h' }) : wpAny (model prog w) A (pyNext (.ref it)) Q E s := by
  have hT : s.TypeIs (.ref it) "range_iterator" := ⟨_, hit, rfl⟩
  unfold pyNext
  refine wpAny_bind (wpAny_attempt (wpAny_callSpecial?_slot (name := Str.ofString "__next__") hT F.slot_range_iterator_next (wpAny_call_entry F.slot_range_iterator_next hT F.entry_range_iterator_next ?_ (F.args_range_iterator_next_1 _))))
  show wpAny _ _ (field (.ref it) 0 >>= _) _ _ s
  refine wpAny_bind (wpAny_field hit rfl (x := rawInt x) rfl ?_)
  show wpAny _ _ (field (.ref it) 1 >>= _) _ _ s
  refine wpAny_bind (wpAny_field hit rfl (x := rawInt left) rfl ?_)
  show wpAny _ _ (field (.ref it) 2 >>= _) _ _ s
  refine wpAny_bind (wpAny_field hit rfl (x := rawInt step) rfl ?_)
  show wpAny _ _ (if left ≤ 0 then _ else _) _ _ s
  rw [if_pos hleft]
  refine wpAny_bind (wpAny_rule ?_)
  refine wpAny_bind ?_
  refine stop_new (A := A.in1) hq fun h' e k he => ?_
  refine wpAny_bind (wpAny_isInstance (T := "StopIteration") (b := true) he isSubtype_stop ?_)
  exact wpAny_pure (hQ _ fun b o _ e => k b o e)
end
end Mine
end

section
set_option autoImplicit false
namespace Mine
open PySem

/-- the frame on top -/
noncomputable def TopL (A : Around) (L : Addr) : Prop := ∃ env l, A.frames = some (env :: l) ∧ env.frame = some L
/-- how a raise leaves: an exception of an own class is under way, and all that stood stands -/
inductive Rz (mg : Str → Option Value) (A : Around) (Sys : Addr → Prop) (s : Shared) (X : String → Prop) (e : Value) (s' : Shared) : Prop
  | mk (c C x ctx) : X c → mg (Str.ofString c) = some (.ref C) → e = .ref x → Kp (FZ A Sys) s s' → (A.handled = none → ctx = .none) → (Fly0 Sys s.heap x C ctx s'.heap ∨ Fly Sys s.heap x C ctx (fun v => v = .none ∨ ∃ L, TopL A L ∧ v = rawInt L) s'.heap) → Rz mg A Sys s X e s'
theorem Rz.trans {mg : Str → Option Value} {A : Around} {Sys : Addr → Prop} {s s₁ s' : Shared} {X : String → Prop} {e : Value} (k : Kp (FZ A Sys) s s₁) (r : Rz mg A Sys s₁ X e s') : Rz mg A Sys s X e s' :=
  let ⟨c, C, x, ctx, h1, h2, h3, h4, h5, h6⟩ := r; ⟨c, C, x, ctx, h1, h2, h3, k.trans h4, h5, h6.imp (fun f => f.before fun _ n => n.before k.hw) fun f => f.before fun _ n => n.before k.hw⟩
theorem Rz.no {mg : Str → Option Value} {A : Around} {Sys : Addr → Prop} {s s' : Shared} {e : Value} (r : Rz mg A Sys s (fun _ => False) e s') : False := let ⟨_, _, _, _, h, _, _, _, _, _⟩ := r; h

structure Rm (d : Nat) (A : Around) : Prop where
  depth : A.depth + d + 150 < recursionLimit
  units : A.units + 20 * d + 200 < cLine
/-- a thing just made: it stood nowhere ahead, and nothing in it leads back to it -/
noncomputable abbrev Frsh (N : Addr → Prop) (s s' : Shared) (v : V) (val : Value) : Prop :=
  ∀ a, val = .ref a → s.heap.get? a = none ∧ ∀ vs, v = .lst vs → ∃ xs n, IsL s'.heap a xs n ∧ xs.size ≤ sizeLine ∧ RVs (fun b => N b ∨ b = a) s'.heap vs xs.toList
theorem Frsh.before {N Z : Addr → Prop} {s₀ s s' : Shared} {v : V} {val : Value} (x : Frsh N s s' v val) (k : Kp Z s₀ s) : Frsh N s₀ s' v val := fun a e => by
  obtain ⟨h1, h2⟩ := x a e
  exact ⟨k.hw.ext h1, h2⟩
theorem Frsh.mk {N : Addr → Prop} {s s' : Shared} {vs : List V} {xs : Array Value} {n : Nat} {a : Addr} (hf : s.heap.get? a = none) (r : RVs N s.heap vs xs.toList) (k : HK s.heap s'.heap) (hl : IsL s'.heap a xs n) (hz : xs.size ≤ sizeLine) : Frsh N s s' (.lst vs) (.ref a) := by
  rintro a' ⟨⟩
  refine ⟨hf, ?_⟩
  rintro vs' ⟨⟩
  refine ⟨xs, n, hl, hz, r.gen (fun b q => ?_) fun b o _ e => k b o e⟩
  rcases q with q | rfl
  · exact .inl q
  · exact .inr hf

/-- a tree, read as a transformer of wishes about values -/
noncomputable def Snd (prog : Program) (w : World) (mg : Str → Option Value) (A : Around) (N Sys : Addr → Prop) (s : Shared) (f : Bool) (t : Sem Value) (W : (V → Prop) → (String → Prop) → Prop) : Prop :=
  ∀ (Q : V → Prop) (X : String → Prop) (K : Value → Shared → Prop) (E : Value → Shared → Prop), W Q X →
    (∀ v val s', Q v → RV N s'.heap v val → Kp (FZ A Sys) s s' → (f = true → Frsh N s s' v val) → K val s') →
    (∀ e s', Rz mg A Sys s X e s' → E e s') → wpAny (model prog w) A t K E s

structure EnvOk (env : Env) (names : List (Str × NameKind)) (σ : List (Str × Nat)) (lay : Nat → Option Place) : Prop where
  kind : env.scope.kind = .function
  glob : env.globals = mainGlobals
  blt : env.builtins = builtinsNs
  gl : ∀ x, names.lookup x = some .globalImplicit → env.kindOf x = some .globalImplicit
  lc : ∀ x, names.lookup x = some .local → env.kindOf x = some .local
  ce : ∀ x, names.lookup x = some .cell → env.kindOf x = some .cell
  fr : ∀ x, names.lookup x = some .free → env.kindOf x = some .cell ∨ env.kindOf x = some .free
  vars : ∀ x i, σ.lookup x = some i → ∃ p, lay i = some p ∧ ((env.kindOf x = some .local ∧ p = .loc env.locals x) ∨
    ((env.kindOf x = some .cell ∨ env.kindOf x = some .free) ∧ (x == ("__classdict__" : Str)) = false ∧ ∃ c, env.cells.lookup x = some c ∧ p = .cell c))

section
variable {prog : Program} {w : World} {mg : Str → Option Value} {A : Around} {N Z : Addr → Prop} {s : Shared} {env : Env}

theorem snd_none {k : Nat} {pos : Pos} : Snd prog w mg A N Z s false (eval (.Constant .none k pos) env) (fun Q _ => Q .none) :=
  fun _ _ _ _ hW hK _ => wpAny_Constant_none (hK _ _ _ hW .none (Kp.refl s) nofun)
theorem snd_bool {b : Bool} {k : Nat} {pos : Pos} : Snd prog w mg A N Z s false (eval (.Constant (.bool b) k pos) env) (fun Q _ => Q (.bool b)) :=
  fun _ _ _ _ hW hK _ => wpAny_Constant_bool (hK _ _ _ hW (.bool b) (Kp.refl s) nofun)
theorem snd_int {i : Int} {k : Nat} {pos : Pos} : Snd prog w mg A N Z s false (eval (.Constant (.int i) k pos) env) (fun Q _ => Q (.int i)) :=
  fun _ _ _ _ hW hK _ => wpAny_Constant_int (hK _ _ _ hW (.int i _) (Kp.tok s _) nofun)
theorem snd_str {x : Str} {k : Nat} {pos : Pos} (hx : SOk x) : Snd prog w mg A N Z s false (eval (.Constant (.str x) k pos) env) (fun Q _ => Q (.str x)) :=
  fun _ _ _ _ hW hK _ => wpAny_Constant_str (hK _ _ _ hW (.str x _ hx) (Kp.tok s _) nofun)
end

/-- load a name -/
theorem ld_var {M : Model} {A : Around} {E : Value → Shared → Prop} {hsh : HFn} {T : Heap → Prop} {lay : Nat → Option Place} {Sys Z : Addr → Prop} {base : Heap} {st : St} {s : Shared} {env : Env} {names : List (Str × NameKind)} {σ : List (Str × Nat)}
    (O : EnvOk env names σ lay) (S : Sim hsh T lay Sys Z base st s.heap) {x : Str} {i : Nat} {v : V} {Q : Value → Shared → Prop} (hx : σ.lookup x = some i) (hv : st.ρ[i]? = some (some v))
    (h : ∀ val, RV (NN st.H Sys) s.heap v val → Q val s) : wpAny M A (loadName env x) Q E s := by
  obtain ⟨p, hp, hc⟩ := O.vars x i hx
  obtain ⟨val, hh, hr⟩ := S.vals i v p hv hp
  rcases hc with ⟨hk, rfl⟩ | ⟨hk, hd, c, hc, rfl⟩
  · obtain ⟨m, hm, e⟩ := hh
    exact wpAny_loadName_local O.kind hk hm e (h val hr)
  · rcases hk with hk | hk
    · exact wpAny_loadName_cell O.kind hk hc hh (h val hr)
    · exact wpAny_loadName_free O.kind hk hc hh (h val hr) hd

/-- store a name -/
theorem st_var {M : Model} {A : Around} {E : Value → Shared → Prop} {hsh : HFn} {T : Heap → Prop} {lay : Nat → Option Place} {Sys Z : Addr → Prop} {base : Heap} {st : St} {s : Shared} {env : Env} {names : List (Str × NameKind)} {σ : List (Str × Nat)}
    (O : EnvOk env names σ lay) (S : Sim hsh T lay Sys Z base st s.heap) {x : Str} {i : Nat} {v : V} {val : Value} {Q : Unit → Shared → Prop} (hx : σ.lookup x = some i) (hi : i < st.ρ.length)
    (hfree : env.kindOf x ≠ some .free) (hr : RV (NN st.H Sys) s.heap v val)
    (h : ∀ h' t p, lay i = some p → Heap.SameBut p.addr s.heap h' → Sim hsh T lay Sys Z base { st with ρ := st.ρ.set i (some v) } h' → Q () { s with heap := h', toks := t }) :
    wpAny M A (storeName env x val) Q E s := by
  obtain ⟨p, hp, hc⟩ := O.vars x i hx
  have hN : NN st.H Sys p.addr := .inr (S.sys i p hp).1
  -- what the store leaves
  have fin : ∀ h', Heap.SameBut p.addr s.heap h' → p.has h' val → p.ok h' → (∀ j q, lay j = some q → j ≠ i → (∀ u, q.has s.heap u → q.has h' u) ∧ (q.ok s.heap → q.ok h')) →
      Sim hsh T lay Sys Z base { st with ρ := st.ρ.set i (some v) } h' := by
    intro h' hs hh hok hoth
    have hk : ∀ b o, ¬ NN st.H Sys b → s.heap.get? b = some o → h'.get? b = some o := fun b o nb e => (hs.2 b (fun q => nb (q ▸ hN))).trans e
    refine ⟨S.keep.but (S.sys i p hp).2.1 hs.2, S.zs, S.top, fun j u q hj hq => ?_, fun j q hq => ?_, S.inj, S.sys, fun a o e => ?_, S.own, fun a q e => ?_, S.ent, S.dis⟩
    · by_cases hji : j = i
      · subst hji
        rw [List.getElem?_set_self hi] at hj
        cases hj
        rw [hp] at hq; cases hq
        exact ⟨val, hh, hr.gen (fun _ q => .inl q) hk⟩
      · rw [List.getElem?_set_ne (Ne.symm hji)] at hj
        obtain ⟨u', a1, a2⟩ := S.vals j u q hj hq
        exact ⟨u', (hoth j q hq hji).1 u' a1, a2.gen (fun _ q => .inl q) hk⟩
    · by_cases hji : j = i
      · subst hji; rw [hp] at hq; cases hq; exact hok
      · exact (hoth j q hq hji).2 (S.ok j q hq)
    · have e0 : st.H a = some o := e
      refine (S.objs a o e0).gen (fun _ q => .inl q) hk fun ob e' => (hs.2 a fun q => ?_).trans e'
      rw [q, (S.sys i p hp).2.2] at e0; cases e0
    · by_cases ha : a = p.addr
      · subst ha
        cases p with
        | loc L x => obtain ⟨m, o, es, ep, e', _⟩ := hok; rw [show (Place.loc L x).addr = L from rfl, e'] at e; cases e
        | cell c => obtain ⟨v, o, e', _⟩ := hok; rw [show (Place.cell c).addr = c from rfl, e'] at e; cases e
      · rw [hs.2 a ha] at e; exact S.live a q e
  rcases hc with ⟨hk, rfl⟩ | ⟨hk, hd, c, hc, rfl⟩
  · obtain ⟨m, hm⟩ := S.ok i _ hp
    refine wpAny_storeName_local hk hm (fun h' hn hs => h h' _ _ hp hs (fin h' hs ⟨_, hn, by simp⟩ ⟨_, hn⟩ fun j q hq hji => ?_)) (by rw [O.kind]; rfl)
    cases q with
    | loc L y =>
      by_cases hL : L = env.locals
      · subst hL
        have hne : y ≠ x := fun e => hji (S.inj j i _ hq (e ▸ hp))
        refine ⟨fun u hu => ?_, fun _ => ⟨_, hn⟩⟩
        obtain ⟨m', hm', e'⟩ := hu
        have : m' = m := by
          obtain ⟨o1, es1, ep1, g1, d1, _, f1⟩ := hm'
          obtain ⟨o2, es2, ep2, g2, d2, _, f2⟩ := hm
          rw [g1] at g2; cases g2
          rw [d1] at d2; cases d2
          funext z; rw [← f1, ← f2]
        subst this
        exact ⟨_, hn, by simp [hne, e']⟩
      · exact ⟨fun u hu => let ⟨m', a, b⟩ := hu; ⟨m', a.sameBut hs hL, b⟩, fun hu => let ⟨m', a⟩ := hu; ⟨m', a.sameBut hs hL⟩⟩
    | cell c =>
      have hne : ∀ v, s.heap.IsCell c v → c ≠ env.locals := by
        rintro v ⟨o, e, d⟩ rfl
        obtain ⟨o2, es2, ep2, g2, d2, _⟩ := hm
        rw [e] at g2; cases g2
        rw [d] at d2; cases d2
      exact ⟨fun u hu => Heap.IsCell.sameBut hu hs (hne _ hu), fun hu => let ⟨v', a⟩ := hu; ⟨v', a.sameBut hs (hne _ a)⟩⟩
  · have hk : env.kindOf x = some .cell := hk.resolve_right hfree
    obtain ⟨v0, hv0⟩ := S.ok i _ hp
    refine wpAny_storeName_cell O.kind hk hc hv0 fun h' hn hs => h h' _ _ hp hs (fin h' hs hn ⟨_, hn⟩ fun j q hq hji => ?_)
    cases q with
    | loc L y =>
      have hne : ∀ m, s.heap.Ns L m → L ≠ c := by
        rintro m ⟨o2, es2, ep2, g2, d2, _⟩ rfl
        obtain ⟨o, e, d⟩ := hv0
        rw [e] at g2; cases g2
        rw [d] at d2; cases d2
      exact ⟨fun u hu => let ⟨m', a, b⟩ := hu; ⟨m', a.sameBut hs (hne _ a), b⟩, fun hu => let ⟨m', a⟩ := hu; ⟨m', a.sameBut hs (hne _ a)⟩⟩
    | cell c' =>
      have hne : c' ≠ c := fun e => hji (S.inj j i _ hq (e ▸ hp))
      exact ⟨fun u hu => Heap.IsCell.sameBut hu hs hne, fun hu => let ⟨v', a⟩ := hu; ⟨v', a.sameBut hs hne⟩⟩

end Mine
end

section
set_option autoImplicit false
namespace Mine
open PySem

structure RmF (d : Nat) (A : Around) : Prop extends Rm d A where
  head : ∃ env l, A.frames = some (env :: l) ∧ env.scope.isGenerator = false ∧ env.scope.isCoroutine = false ∧ env.builtins = builtinsNs ∧ env.globals = mainGlobals

/-- where a call may be made -/
structure RmC (d : Nat) (A : Around) : Prop extends Rm d A where
  fr : ∃ l, A.frames = some l
theorem RmF.toC {d : Nat} {A : Around} (x : RmF d A) : RmC d A := ⟨x.toRm, let ⟨e, l, h, _⟩ := x.head; ⟨e :: l, h⟩⟩

/-- what every heap of the run bears -/
structure TG (prog : Program) (mg mb : Str → Option Value) (h : Heap) : Prop where
  g : h.Ns mainGlobals mg
  b : h.Ns builtinsNs mb
  nolimit : h.NoLimit
  noseer : h.NoSeer
  tree : prog.given.tree = none
theorem TG.keeps {prog : Program} {mg mb : Str → Option Value} {h h' : Heap} (x : TG prog mg mb h) (k : HK h h') : TG prog mg mb h' :=
  ⟨x.g.keeps k, x.b.keeps k, x.nolimit.keeps k, x.noseer.keeps k, x.tree⟩

theorem pylong {prog : Program} {w : World} {mg mb : Str → Option Value} {A : Around} {s : Shared} {d : Nat} (R : RmF d A) (T : TG prog mg mb s.heap) : PylongRoom (model prog w) A s := by
  obtain ⟨env, l, h1, h2, h3, h4, h5⟩ := R.head
  exact PylongRoom.of T.nolimit (by have := R.depth; show A.depth + 100 < recursionLimit; omega) (SeerAt.of T.noseer T.tree h1 h2 h3 h4 h5)

noncomputable abbrev HO (hsh : HFn) (H : AH) (Sys : Addr → Prop) (h : Heap) : Prop := ∀ a o, H a = some o → RO hsh (NN H Sys) h a o

theorem fresh_size (h : Heap) : h.get? h.objs.size = none := Heap.get?_none_of_le (Nat.le_refl _)
theorem new_lst {hsh : HFn} {H : AH} {Sys : Addr → Prop} {h : Heap} {vs : List V} {xs : Array Value} (ho : HO hsh H Sys h) (hsys : ∀ a, Sys a → h.get? a ≠ none) (r : RVs (NN H Sys) h vs xs.toList) (hz : xs.size ≤ sizeLine) :
    RV (NN H Sys) (h.push { cls := .type "list", data := .seq xs }) (.lst vs) (.ref h.objs.size) := by
  refine .lst (fun q => ?_) (IsL.new h xs) hz (r.keeps (HK.push h _))
  rcases q with q | q
  · cases e : H h.objs.size with
    | none => exact q e
    | some o =>
      obtain ⟨ob, e'⟩ := (ho _ _ e).exists
      rw [fresh_size] at e'; cases e'
  · exact hsys _ q (fresh_size h)
theorem new_tup {hsh : HFn} {H : AH} {Sys : Addr → Prop} {h : Heap} {vs : List V} {xs : Array Value} (ho : HO hsh H Sys h) (hsys : ∀ a, Sys a → h.get? a ≠ none) (r : RVs (NN H Sys) h vs xs.toList) (hz : xs.size ≤ sizeLine) :
    RV (NN H Sys) (h.push { cls := .type "tuple", data := .seq xs }) (.tup vs) (.ref h.objs.size) := by
  refine .tup (fun q => ?_) (IsT.new h xs) hz (r.keeps (HK.push h _))
  rcases q with q | q
  · cases e : H h.objs.size with
    | none => exact q e
    | some o =>
      obtain ⟨ob, e'⟩ := (ho _ _ e).exists
      rw [fresh_size] at e'; cases e'
  · exact hsys _ q (fresh_size h)

section
variable {hsh : HFn} {prog : Program} {w : World} {A : Around} {E : Value → Shared → Prop} {s : Shared} {H : AH} {Sys : Addr → Prop} {mg mb : Str → Option Value} {d : Nat}

theorem RVs.repL {N : Addr → Prop} {h : Heap} {vs : List V} {xs : List Value} (r : RVs N h vs xs) : ∀ n : Nat, RVs N h (repL n vs) (repL n xs)
  | 0 => .nil
  | n + 1 => by
    have := r.append (r.repL n)
    simpa [Mine.repL, List.replicate_succ] using this
theorem repL_length {α : Type} (n : Nat) (xs : List α) : (repL n xs).length = n * xs.length := by simp [repL]

theorem repL_nil {α : Type} (n : Nat) : repL n ([] : List α) = [] := by simp [repL]
theorem foldl_rep {α : Type} (xs : Array α) : ∀ (n : Nat) (acc : Array α), ((List.replicate n xs).foldl (fun x1 x2 => x1 ++ x2) acc).toList = acc.toList ++ repL n xs.toList
  | 0, acc => by simp [repL]
  | n + 1, acc => by
    rw [List.replicate_succ, List.foldl_cons, foldl_rep xs n]
    simp [repL, List.replicate_succ]
theorem mul_row {l : Addr} {items : Array Value} {k : Nat} {x : Int} {u : Tok} {Q : Value → Shared → Prop} (hl : IsL s.heap l items k) (hlo : -(2 ^ 62 : Int) ≤ x) (hhi : x < 2 ^ 62) (hsz : items.size * x.toNat ≤ sizeLine)
    (h : ∀ r : Array Value, r.toList = repL x.toNat items.toList → Q (.ref s.heap.objs.size) { s with heap := s.heap.push { cls := .type "list", data := .seq r } }) :
    wpAny (model prog w) A (binaryOp .Mult (.ref l) (.int x u)) Q E s := by
  have hz : items.size * x.toNat ≤ 16777216 := hsz
  refine wpAny_binaryOp_repeat_ref (T := "list") (U := "int") (by decide) ⟨_, hl, rfl⟩ (fun s' => typeIs_int s' x u) noFill_list_mul F.fills_int_mul F.slot_int_rmul repeat_list F.slot_int_index.lookup ?_
  refine call_meets F.slot_int_rmul (typeIs_int s x u) F.entry_int_rmul (F.args_int_rmul_2 _ _) (int___rmul___int_list x u l items k) ⟨hl, rfl, ⟨_, hl, rfl⟩, ?_⟩
  refine call_meets F.slot_list_mul ⟨_, hl, rfl⟩ F.entry_list_mul (F.args_list_mul_2 _ _) (AutoListH.list___mul___list_int_3 l items k x u (by simp [Builtin.List.listFitsIndex]; omega) (by omega) (by simp [Builtin.List.listTooLong, sizeLine]; omega)) ⟨hl, ?_⟩
  refine h _ ?_
  rw [foldl_rep]
  by_cases hi : items.isEmpty = true
  · have e : items = #[] := by simpa using hi
    subst e; simp [repL]
  · rw [if_neg hi]; simp

theorem txt_mul {x : Str} {n : Int} (h : 0 ≤ n) : Txt.mul x n = ⟨(repL n.toNat x.cps.toList).toArray⟩ := by
  unfold Txt.mul
  by_cases h1 : n < 1
  · rw [if_pos h1]
    have e : n = 0 := by omega
    subst e; rfl
  · rw [if_neg h1]
    split
    · rename_i h2
      simp only [Bool.or_eq_true, beq_iff_eq] at h2
      rcases h2 with h2 | h2
      · subst h2
        apply Str.ext'
        simp [repL]
      · have e : x.cps = #[] := Array.eq_empty_of_size_eq_zero h2
        apply Str.ext'
        simp [e, repL_nil]
    · congr 1
      apply Array.toList_inj.mp
      rw [foldl_rep]; simp
theorem rep_mem {α : Type} {n : Nat} {xs : List α} {c : α} (h : c ∈ repL n xs) : c ∈ xs := by
  unfold repL at h
  obtain ⟨l, hl, hc⟩ := List.mem_flatten.mp h
  rw [List.eq_of_mem_replicate hl] at hc; exact hc
theorem intP_inv {v : V} {P : Int → Prop} (h : intP v P) : ∃ i, v = .int i ∧ P i := by
  cases v <;> first | exact ⟨_, rfl, h⟩ | exact False.elim h
theorem seqP_inv {H : AH} {v : V} {P : List V → Prop} (h : seqP H v P) : ∃ x, seqL H v = some x ∧ P x := by
  unfold seqP at h
  cases e : seqL H v with
  | none => rw [e] at h; exact False.elim h
  | some x => rw [e] at h; exact ⟨_, rfl, h⟩

theorem bits_le {i : Int} (h : i.natAbs < 2 ^ 62) : Builtin.Int.intBits i ≤ 64 := intBits_le_64 (by omega) (by omega)
theorem prim_add {u v : V} {a b : Value} {Q : V → Prop} {K : Value → Shared → Prop} (ho : HO hsh H Sys s.heap) (hsys : ∀ a, Sys a → s.heap.get? a ≠ none)
    (hW : seqP H u fun x => seqP H v fun y => x.length + y.length ≤ sizeLine ∧ Q (.lst (x ++ y))) (ra : RV (NN H Sys) s.heap u a) (rb : RV (NN H Sys) s.heap v b)
    (hK : ∀ r val s', Q r → RV (NN H Sys) s'.heap r val → Kp (FZ A Sys) s s' → Frsh (NN H Sys) s s' r val → K val s') :
    wpAny (model prog w) A (binaryOp .Add a b) K E s := by
  obtain ⟨x, e1, hW⟩ := seqP_inv hW
  obtain ⟨y, e2, hW⟩ := seqP_inv hW
  apply seq_val ho ra e1; intro a1 xs n hl hz rx
  apply seq_val ho rb e2; intro b1 ys m hl' hz' ry
  have hlen : xs.size + ys.size ≤ sizeLine := by rw [← rx.size, ← ry.size]; exact hW.1
  have rr : RVs (NN H Sys) s.heap (x ++ y) (xs ++ ys).toList := by rw [Array.toList_append]; exact rx.append ry
  have hzz : (xs ++ ys).size ≤ sizeLine := by rw [Array.size_append]; exact hlen
  exact P.add_list hl hl' (hK _ _ _ hW.2 (new_lst ho hsys rr hzz) (Kp.ofH (HK.push _ _)) (Frsh.mk (s := s) (s' := { s with heap := s.heap.push { cls := .type "list", data := .seq (xs ++ ys) } }) (fresh_size _) rr (HK.push _ _) (IsL.new _ _) hzz)) hlen
theorem prim_mulL {vs : List V} {v : V} {a b : Value} {Q : V → Prop} {K : Value → Shared → Prop} (ho : HO hsh H Sys s.heap) (hsys : ∀ a, Sys a → s.heap.get? a ≠ none)
    (hW : intP v fun n => -(2 ^ 62) ≤ n ∧ n < 2 ^ 62 ∧ vs.length * n.toNat ≤ sizeLine ∧ Q (.lst (repL n.toNat vs))) (ra : RV (NN H Sys) s.heap (.lst vs) a) (rb : RV (NN H Sys) s.heap v b)
    (hK : ∀ r val s', Q r → RV (NN H Sys) s'.heap r val → Kp (FZ A Sys) s s' → Frsh (NN H Sys) s s' r val → K val s') :
    wpAny (model prog w) A (binaryOp .Mult a b) K E s := by
  apply int_val hW rb; intro n t hW
  apply RV.elim ra; intro a1 xs k na hl hz rx
  have hlen : xs.size * n.toNat ≤ sizeLine := by rw [← rx.size]; exact hW.2.2.1
  refine mul_row hl hW.1 hW.2.1 hlen fun r hr => ?_
  have rr : RVs (NN H Sys) s.heap (repL n.toNat vs) r.toList := by rw [hr]; exact rx.repL _
  have hrs : r.size ≤ sizeLine := by
    rw [← Array.length_toList, hr, repL_length, Array.length_toList, Nat.mul_comm]; exact hlen
  exact hK _ _ _ hW.2.2.2 (new_lst ho hsys rr hrs) (Kp.ofH (HK.push _ _)) (Frsh.mk (s := s) (s' := { s with heap := s.heap.push { cls := .type "list", data := .seq r } }) (fresh_size _) rr (HK.push _ _) (IsL.new _ _) hrs)
theorem prim_mulT {x : Str} {v : V} {a b : Value} {Q : V → Prop} {K : Value → Shared → Prop}
    (hW : intP v fun n => 0 ≤ n ∧ n < 2 ^ 30 ∧ x.length * n.toNat ≤ sizeLine ∧ Q (.str ⟨(repL n.toNat x.cps.toList).toArray⟩)) (ra : RV (NN H Sys) s.heap (.str x) a) (rb : RV (NN H Sys) s.heap v b)
    (hK : ∀ r val s', Q r → RV (NN H Sys) s'.heap r val → Kp (FZ A Sys) s s' → Frsh (NN H Sys) s s' r val → K val s') :
    wpAny (model prog w) A (binaryOp .Mult a b) K E s := by
  apply int_val hW rb; intro n t hW
  apply RV.elim ra; intro t' ox
  obtain ⟨h0, h1, h2, hq⟩ := hW
  have hs' : sizeLine = 16777216 := rfl
  have hx := ox.1
  have hsz : x.length * n.toNat ≤ 16777216 := h2
  refine SB.mul ⟨by simp only [Bool.or_eq_false_iff, decide_eq_false_iff_not]; omega, fun h3 _ => ?_, fun h3 _ => ?_⟩ fun t' k => ?_
  · intro h4
    have h5 : (x.length : Int) * n ≤ 16777216 := by
      have : ((x.length * n.toNat : Nat) : Int) ≤ ((16777216 : Nat) : Int) := Int.ofNat_le.mpr hsz
      rwa [Int.natCast_mul, Int.toNat_of_nonneg h0] at this
    have h6 : (2 ^ 63 - 1) / n * n ≤ (2 ^ 63 - 1 : Int) := Int.ediv_mul_le _ (by omega)
    have h7 : (2 ^ 63 - 1 : Int) < ((2 ^ 63 - 1) / n + 1) * n := Int.lt_ediv_add_one_mul_self _ (by omega)
    have h8 : ((2 ^ 63 - 1) / n + 1) * n ≤ (x.length : Int) * n := Int.mul_le_mul_of_nonneg_right (by omega) h0
    omega
  · unfold Builtin.Str.tooLong
    exact decide_eq_false (by omega)
  · rw [txt_mul h0]
    refine hK _ _ _ hq (.str _ _ ⟨?_, fun c hc => ?_⟩) (Kp.tok s _) nofun
    · show (repL n.toNat x.cps.toList).toArray.size ≤ sizeLine
      rw [List.size_toArray, repL_length, Array.length_toList, Nat.mul_comm]; exact h2
    · exact ox.2 c (rep_mem (by simpa using hc))
theorem prim_bin {op : Bop} {u v : V} {a b : Value} {Q : V → Prop} {K : Value → Shared → Prop} (R : RmF d A) (T : TG prog mg mb s.heap) (ho : HO hsh H Sys s.heap) (hsys : ∀ a, Sys a → s.heap.get? a ≠ none)
    (hW : binV H op u v Q) (ra : RV (NN H Sys) s.heap u a) (rb : RV (NN H Sys) s.heap v b)
    (hK : ∀ r val s', Q r → RV (NN H Sys) s'.heap r val → Kp (FZ A Sys) s s' → Frsh (NN H Sys) s s' r val → K val s') :
    wpAny (model prog w) A (binaryOp (opOf op) a b) K E s := by
  have hI : ∀ {i : Int} {t : Tok} {tk : Nat}, Q (.int i) → K (.int i t) { s with toks := tk } := fun q => hK _ _ _ q (.int _ _) (Kp.tok s _) nofun
  cases op with
  | add =>
    cases u with
    | int i =>
      apply int_val hW rb; intro j t' hW
      apply RV.elim ra; intro t
      exact PyProof.Rows.add_int (hI hW)
    | str x =>
      apply str_val hW rb; intro y t' o2 hW
      apply RV.elim ra; intro t o1
      exact PyProof.Rows.add_str (fun t' tk => hK _ _ _ hW.2 (.str _ _ (o1.append o2 hW.1)) (Kp.tok s _) nofun) hW.1
    | lst => refine prim_add (Q := Q) (v := v) ho hsys ?_ ra rb hK; exact hW
    | ref => refine prim_add (Q := Q) (v := v) ho hsys ?_ ra rb hK; exact hW
    | _ => exact False.elim hW
  | sub =>
    apply int_val hW ra; intro i t hW
    apply int_val hW rb; intro j t' hW
    exact PyProof.Rows.sub_int (hI hW)
  | mul =>
    cases u with
    | int i =>
      apply int_val hW rb; intro j t' hW
      apply RV.elim ra; intro t
      refine PyProof.Rows.mul_int (hI hW.2) ?_
      rcases hW.1 with h | h
      · exact IntMulOk.of_left (bits_le h)
      · exact IntMulOk.of_right (bits_le h)
    | lst vs => exact prim_mulL ho hsys hW ra rb hK
    | str x => exact prim_mulT hW ra rb hK
    | _ => exact False.elim hW
  | fdiv =>
    apply int_val hW ra; intro i t hW
    apply int_val hW rb; intro j t' hW
    exact PyProof.Rows.floordiv_int hW.1 (hI hW.2) (.inr (pylong R T))
  | mod =>
    apply int_val hW ra; intro i t hW
    apply int_val hW rb; intro j t' hW
    exact PyProof.Rows.mod_int hW.1 (hI hW.2)
  | pow =>
    apply int_val hW ra; intro i t hW
    apply int_val hW rb; intro j t' hW
    obtain ⟨rfl, hj, hq⟩ := hW
    rcases hj with rfl | rfl
    · exact PyProof.Rows.pow_int (by decide) (by decide) (hI hq)
    · exact PyProof.Rows.pow_int (by decide) (by decide) (hI hq)
end

end Mine
end

section
set_option autoImplicit false
namespace Mine
open PySem

structure PG where
  prog : Program
  w : World
  mg : Str → Option Value
  mb : Str → Option Value
  tbl : Tbl
  gtab : List (String × V)
  ctab : Clss
  xs : List String
  hots : List String
/-- the hash of a key that is a tuple of numbers and texts -/
noncomputable def atHash (w : World) : At → Int
  | .i n => hashInt n
  | .s x => hashStr w x
noncomputable def wHash (w : World) : HFn := fun ks => reduceHash (Builtin.Tuple.tupleHashOf (ks.map (atHash w)))
noncomputable def PG.hf (G : PG) : HFn := wHash G.w

noncomputable def bnames : List String := ["len", "isinstance", "int", "bool", "str", "tuple", "list", "sum", "max", "min", "reversed", "range", "enumerate", "zip", "ValueError"]
noncomputable def btypes : List String := ["int", "bool", "str", "tuple", "list", "reversed", "range", "enumerate", "zip", "ValueError"]
noncomputable def bval (n : String) : Value := if n ∈ btypes then .type n else .builtin n

/-- a row of the table of classes -/
structure CRow (h : Heap) (C N0 : Addr) (mN : Str → Option Value) (n : Nat) (fs : List (String × Ini)) : Prop where
  cls : PyProof.Rows.ClsAt h C N0 mN
  ga : mN "__getattribute__" = none
  sa : mN "__setattr__" = none
  qt : ∀ f ∈ fs, mN (Str.ofString f.1) = none ∧ typeLookup (.type "object") (Str.ofString f.1) = pure none
  ini : ∃ fI oI pm cdv doc qual params body scope, mN "__init__" = some (.ref fI) ∧ h.get? fI = some oI ∧ oI.cls = .type "function" ∧ oI.data = .func (PyProof.Rows.methDef "__init__" qual params body scope pm cdv doc) ∧ h.CodeRec cdv qual ∧ chkIni n fs params body scope = true
theorem CRow.keeps {h h' : Heap} {C N0 : Addr} {mN : Str → Option Value} {n : Nat} {fs : List (String × Ini)} (x : CRow h C N0 mN n fs) (k : HK h h') : CRow h' C N0 mN n fs := by
  obtain ⟨fI, oI, pm, cdv, doc, qual, params, body, scope, h1, h2, h3, h4, h5, h6⟩ := x.ini
  exact ⟨x.cls.keeps k, x.ga, x.sa, x.qt, fI, oI, pm, cdv, doc, qual, params, body, scope, h1, k _ _ h2, h3, h4, h5.keeps k, h6⟩
noncomputable def bmV : List Value := [.type "ValueError", .type "Exception", .type "BaseException", .type "object"]
/-- an own class of exceptions -/
noncomputable def qNames : List Str := ["__getattribute__", "__getattr__", "__class__"]
/-- an own exception's line of classes: none of these names is set in it ahead of ValueError -/
inductive QTail (h : Heap) : List Value → Prop
  | base : QTail h bmV
  | own {A : Addr} {c0 : Value} {dd : Option Addr} {cd : ClassData} {sl : Array (Option Value)} {mA : Str → Option Value} {tl : List Value} :
      h.get? A = some { cls := c0, dict := dd, data := .cls cd, slots := sl } → h.Ns cd.ns mA → (∀ n ∈ qNames, mA n = none) → QTail h tl → QTail h (.ref A :: tl)
theorem QTail.keeps {h h' : Heap} {l : List Value} (x : QTail h l) (k : HK h h') : QTail h' l := by
  induction x with
  | base => exact .base
  | own h1 h2 h3 _ ih => exact .own (k _ _ h1) (h2.keeps k) h3 ih
inductive XRow (mg : Str → Option Value) (h : Heap) (xs : List String) (c : String) : Prop
  | mk (C bm N nm q bs hdct sn sub ab col dd k0 k1 k2 k3 k5 mN) : mg (Str.ofString c) = some (.ref C) → h.get? C = some (excClassObj nm q C N bs bm hdct sn sub ab col dd k0 k1 k2 k3 k5 "ValueError.__new__") → h.Ns N mN → mN "__init__" = none → OwnTail h bmV bm →
    (∀ t ∈ xs, ∀ D, mg (Str.ofString t) = some (.ref D) → (Value.ref C :: bm).contains (.ref D) = subX c t) → QTail h (.ref C :: bm) → XRow mg h xs c
theorem XRow.keeps {mg : Str → Option Value} {h h' : Heap} {xs : List String} {c : String} (x : XRow mg h xs c) (k : HK h h') : XRow mg h' xs c :=
  let ⟨C, bm, N, nm, q, bs, hdct, sn, sub, ab, col, dd, k0, k1, k2, k3, k5, mN, h1, h2, h3, h4, h5, h6, h7⟩ := x; ⟨C, bm, N, nm, q, bs, hdct, sn, sub, ab, col, dd, k0, k1, k2, k3, k5, mN, h1, k _ _ h2, h3.keeps k, h4, h5.keeps k, h6, h7.keeps k⟩
structure TT (G : PG) (h : Heap) : Prop extends TG G.prog G.mg G.mb h where
  bl : ∀ n ∈ bnames, G.mg (Str.ofString n) = none ∧ G.mb (Str.ofString n) = some (bval n)
  fn : ∀ f fn, G.tbl.lookup f = some fn → ∃ (dr : DefRec) (a : Addr) (o : Obj) (pm code doc : Value), G.mg (Str.ofString f) = some (.ref a) ∧ h.get? a = some o ∧
    o.data = .func (Calls.docDef dr.name dr.params dr.body dr.scope pm code doc) ∧ h.CodeRec code dr.name ∧ chkFn (G.tbl.map (·.1)) G.xs (G.hots.contains f) G.hots fn dr = true
  gl : ∀ x v, G.gtab.lookup x = some v → (∃ i t, v = .int i ∧ G.mg (Str.ofString x) = some (.int i t)) ∨ (∃ u t, v = .str u ∧ SOk u ∧ G.mg (Str.ofString x) = some (.str u t))
  cl : ∀ r ∈ G.ctab, G.mg (Str.ofString r.1) = some (.ref r.2.1) ∧ ∃ N0 mN, CRow h r.2.1 N0 mN r.2.2.1 r.2.2.2
  ex : ∀ c ∈ G.xs, XRow G.mg h G.xs c
  exn : ∀ c ∈ allX, c ∈ G.xs ∨ G.mg (Str.ofString c) = none
theorem TT.keeps {G : PG} {h h' : Heap} (x : TT G h) (k : HK h h') : TT G h' :=
  ⟨x.toTG.keeps k, x.bl, fun f fn e => let ⟨dr, a, o, pm, code, doc, h1, h2, h3, h4, h5⟩ := x.fn f fn e; ⟨dr, a, o, pm, code, doc, h1, k _ _ h2, h3, h4.keeps k, h5⟩, x.gl
  , fun r hr => let ⟨h1, N0, mN, c⟩ := x.cl r hr; ⟨h1, N0, mN, c.keeps k⟩
  , fun c hc => (x.ex c hc).keeps k, x.exn
  ⟩

noncomputable def PG.cx (G : PG) (d : Nat) : Cx := cxN G.tbl G.gtab G.ctab d

/-- all that a frame's expressions are read against -/
structure Fx0 (G : PG) (d : Nat) (c : Sc) (A : Around) (env : Env) (lay : Nat → Option Place) (Sys : Addr → Prop) (base : Heap) (st : St) (s : Shared) : Prop where
  rm : RmF d A
  eo : EnvOk env c.names c.σ lay
  us : ∀ i p, lay i = some p → i < c.used
  sim : Sim G.hf (TT G) lay Sys (FZ A Sys) base st s.heap
  own : ∃ L, env.frame = some L ∧ ∃ e l, A.frames = some (e :: l) ∧ e.frame = some L
  cold : c.hot = false → A.handled = none
structure Fx (G : PG) (d : Nat) (c : Sc) (A : Around) (env : Env) (lay : Nat → Option Place) (Sys : Addr → Prop) (base : Heap) (st : St) (s : Shared) : Prop extends Fx0 G d c A env lay Sys base st s where
  fr : FrOk A Sys s.heap
  hd : (c.hot = true ∧ c.dead = true) ∨ HdOk A Sys s.heap
theorem Fx.keeps {G : PG} {d : Nat} {c : Sc} {A : Around} {env : Env} {lay : Nat → Option Place} {Sys : Addr → Prop} {base : Heap} {st : St} {s s' : Shared} (x : Fx G d c A env lay Sys base st s) (k : Kp (FZ A Sys) s s') :
    Fx G d c A env lay Sys base st s' := ⟨⟨x.rm, x.eo, x.us, x.sim.kz k.hw, x.own, x.cold⟩, x.fr.kz k.hw, x.hd.imp id fun q => q.kz k.hw⟩
theorem Fx.za {G : PG} {d : Nat} {c : Sc} {A : Around} {env : Env} {lay : Nat → Option Place} {Sys : Addr → Prop} {base : Heap} {st : St} {s : Shared} (x : Fx G d c A env lay Sys base st s) {b : Addr} (q : ZA A b) : Sys b :=
  let ⟨_, e, h1, h2, h3⟩ := q; let ⟨_, _, h4, f⟩ := x.fr; by
    rw [h1] at h4; cases h4
    obtain ⟨_, L, _, g1, g2, _⟩ := f e h2
    rw [h3] at g1; cases g1; exact g2
theorem Fx.nz {G : PG} {d : Nat} {c : Sc} {A : Around} {env : Env} {lay : Nat → Option Place} {Sys : Addr → Prop} {base : Heap} {st : St} {s : Shared} (x : Fx G d c A env lay Sys base st s) {b : Addr} (q : s.heap.get? b = none) : ¬ ZA A b := fun z => x.sim.live b (x.za z) q
theorem Fx.hdo {G : PG} {d : Nat} {c : Sc} {A : Around} {env : Env} {lay : Nat → Option Place} {Sys : Addr → Prop} {base : Heap} {st : St} {s : Shared} (x : Fx G d c A env lay Sys base st s) (q : c.dead = false) : HdOk A Sys s.heap := x.hd.resolve_left fun h => by rw [q] at h; exact ff h.2
theorem Fx.top {G : PG} {d : Nat} {c : Sc} {A : Around} {env : Env} {lay : Nat → Option Place} {Sys : Addr → Prop} {base : Heap} {st : St} {s : Shared} (x : Fx G d c A env lay Sys base st s) : TT G s.heap := let ⟨_, t, k, _⟩ := x.sim.topH; t.keeps k

noncomputable abbrev SE (G : PG) (d : Nat) (c : Sc) (e : E) (x : Expr) : Prop :=
  ∀ {A : Around} {env : Env} {lay : Nat → Option Place} {Sys : Addr → Prop} {base : Heap} {st : St} {s : Shared}, Fx G d c A env lay Sys base st s →
    Snd G.prog G.w G.mg A (NN st.H Sys) Sys s (isFresh e) (eval x env) (WE (G.cx d) e st)

theorem Snd.weak {prog : Program} {w : World} {mg : Str → Option Value} {A : Around} {N Z : Addr → Prop} {s : Shared} {f : Bool} {t : Sem Value} {W : (V → Prop) → (String → Prop) → Prop} (h : Snd prog w mg A N Z s f t W) : Snd prog w mg A N Z s false t W :=
  fun Q X K E hW hK hX => h Q X K E hW (fun v val s' q r k _ => hK v val s' q r k nofun) hX

theorem fresh_keeps {Z : Addr → Prop} {s s' : Shared} (k : Kp Z s s') {a : Addr} (e : s'.heap.get? a = none) : s.heap.get? a = none := k.hw.ext e

section
variable {G : PG} {d : Nat} {c : Sc} {A : Around} {env : Env} {lay : Nat → Option Place} {Sys : Addr → Prop} {base : Heap} {st : St} {s : Shared}

theorem isVar_eq {x : Str} {i : Nat} (h : isVar c x i = true) : c.σ.lookup x = some i ∧ (x == ("__debug__" : Str)) = false := by
  simp only [isVar, Bool.and_eq_true, decide_eq_true_eq, Bool.not_eq_true'] at h; exact h
theorem isGlob_eq {x : Str} {n : String} (h : isGlob c x n = true) : x = Str.ofString n ∧ c.names.lookup x = some .globalImplicit ∧ (x == ("__debug__" : Str)) = false := by
  simp only [isGlob, Bool.and_eq_true, decide_eq_true_eq, Bool.not_eq_true'] at h; exact ⟨h.1.1.1, h.1.1.2, h.1.2⟩
theorem isGlob_hot {x : Str} {n : String} (h : isGlob c x n = true) : hotOk c n = true := ((Bool.and_eq_true _ _).mp h).2
theorem isGlob_cold {x : Str} {n : String} (h : isGlob c x n = true) (hn : coldB.contains n = true) : c.hot = false := by
  have := isGlob_hot h
  unfold hotOk at this
  rw [hn] at this
  cases e : c.hot with
  | false => rfl
  | true => rw [e] at this; exact ff this

theorem ld_glob {M : Model} {E : Value → Shared → Prop} {x : Str} {n : String} {v : Value} {pos : Pos} {Q : Value → Shared → Prop} (F : Fx G d c A env lay Sys base st s) (hg : isGlob c x n = true) (hv : G.mg (Str.ofString n) = some v) (h : Q v s) :
    wpAny M A (eval (.Name x pos) env) Q E s := by
  obtain ⟨rfl, h2, h3⟩ := isGlob_eq hg
  exact Calls.Name_function_global F.eo.kind (F.eo.gl _ h2) (Calls.loadGlobal_global (by rw [F.eo.glob]; exact F.top.g) hv h) h3
theorem ld_bltn {M : Model} {E : Value → Shared → Prop} {x : Str} {n : String} {pos : Pos} {Q : Value → Shared → Prop} (F : Fx G d c A env lay Sys base st s) (hg : isGlob c x n = true) (hn : n ∈ bnames) (h : Q (bval n) s) :
    wpAny M A (eval (.Name x pos) env) Q E s := by
  obtain ⟨rfl, h2, h3⟩ := isGlob_eq hg
  exact Calls.Name_function_global F.eo.kind (F.eo.gl _ h2) (Calls.loadGlobal_builtin (by rw [F.eo.glob]; exact F.top.g) (F.top.bl n hn).1 (by rw [F.eo.blt]; exact F.top.b) (F.top.bl n hn).2 h) h3

theorem se_var {i : Nat} {x : Str} {pos : Pos} (F : Fx G d c A env lay Sys base st s) (hx : isVar c x i = true) : Snd G.prog G.w G.mg A (NN st.H Sys) Sys s false (eval (.Name x pos) env) (WE (G.cx d) (.var i) st) := by
  intro Q X K E hW hK hX
  obtain ⟨h1, h2⟩ := isVar_eq hx
  simp only [we_0, we_1, we_2, we_3, we_4, we_5, we_6, we_7, we_8, we_9, we_10, we_11, we_12, we_13, we_14, we_15, we_16, we_17, we_18, we_19, we_20, we_21, we_22, we_23, we_24, we_25, we_26, we_27, we_28, we_29, we_30, we_31, we_32, we_33, we_34, we_35, we_36, we_37] at hW
  split at hW
  · rename_i v hv
    exact wpAny_Name (ld_var F.eo F.sim h1 hv fun val r => hK v val s hW r (Kp.refl s) nofun) h2
  · exact hW.elim

theorem se_glob {g : String} {x : Str} {pos : Pos} (F : Fx G d c A env lay Sys base st s) (hx : isGlob c x g = true) : Snd G.prog G.w G.mg A (NN st.H Sys) Sys s false (eval (.Name x pos) env) (WE (G.cx d) (.glob g) st) := by
  intro Q X K E hW hK hX
  simp only [we_0, we_1, we_2, we_3, we_4, we_5, we_6, we_7, we_8, we_9, we_10, we_11, we_12, we_13, we_14, we_15, we_16, we_17, we_18, we_19, we_20, we_21, we_22, we_23, we_24, we_25, we_26, we_27, we_28, we_29, we_30, we_31, we_32, we_33, we_34, we_35, we_36, we_37] at hW
  split at hW
  · rename_i v hv
    rcases F.top.gl g v hv with ⟨i, t, rfl, e⟩ | ⟨u, t, rfl, hu, e⟩
    · exact ld_glob F hx e (hK _ _ s hW (.int i t) (Kp.refl s) nofun)
    · exact ld_glob F hx e (hK _ _ s hW (.str u t hu) (Kp.refl s) nofun)
  · exact hW.elim

theorem se_bin {op : Bop} {a b : E} {l r : Expr} {pos : Pos} (F : Fx G d c A env lay Sys base st s) (ha : SE G d c a l) (hb : SE G d c b r) :
    Snd G.prog G.w G.mg A (NN st.H Sys) Sys s true (eval (.BinOp l (opOf op) r pos) env) (WE (G.cx d) (.bin op a b) st) := by
  intro Q X K E hW hK hX
  simp only [we_0, we_1, we_2, we_3, we_4, we_5, we_6, we_7, we_8, we_9, we_10, we_11, we_12, we_13, we_14, we_15, we_16, we_17, we_18, we_19, we_20, we_21, we_22, we_23, we_24, we_25, we_26, we_27, we_28, we_29, we_30, we_31, we_32, we_33, we_34, we_35, we_36, we_37] at hW
  refine wpAny_BinOp ((ha F).weak _ X _ E hW (fun u va s₁ h₁ r₁ k₁ _ => ?_) hX)
  have F₁ := F.keeps k₁
  refine (hb F₁).weak _ X _ E h₁ (fun v vb s₂ h₂ r₂ k₂ _ => ?_) (fun e s' q => hX e s' (Rz.trans k₁ q))
  have F₂ := F₁.keeps k₂
  exact prim_bin F₂.rm F₂.top.toTG F₂.sim.objs F₂.sim.live h₂ (r₁.kz k₂.hw) r₂ fun r val s' q rv k f => hK r val s' q rv ((k₁.trans k₂).trans k) fun _ => f.before (k₁.trans k₂)

theorem truth_bool {H : AH} {N : Addr → Prop} {h : Heap} {u : V} {x : Value} {b : Bool} (r : RV N h u x) (e : truthV H u = some b) : x = .bool b := by
  cases r <;> simp [tv_none, tv_bool, tv_int, tv_str, tv_tup, tv_lst, tv_ref, tv_inst, tv_iref, tv_exc, tv_dct] at e
  subst e; rfl

theorem se_not {a : E} {y : Expr} {pos : Pos} (F : Fx G d c A env lay Sys base st s) (ha : SE G d c a y) :
    Snd G.prog G.w G.mg A (NN st.H Sys) Sys s false (eval (.UnaryOp .Not y pos) env) (WE (G.cx d) (.not a) st) := by
  intro Q X K E hW hK hX
  simp only [we_0, we_1, we_2, we_3, we_4, we_5, we_6, we_7, we_8, we_9, we_10, we_11, we_12, we_13, we_14, we_15, we_16, we_17, we_18, we_19, we_20, we_21, we_22, we_23, we_24, we_25, we_26, we_27, we_28, we_29, we_30, we_31, we_32, we_33, we_34, we_35, we_36, we_37] at hW
  refine wpAny_UnaryOp ((ha F).weak _ X _ E hW (fun u va s₁ h₁ r₁ k₁ _ => ?_) hX)
  split at h₁
  · rename_i b hb
    obtain rfl := truth_bool r₁ hb
    exact not_value (wpAny_truthy_bool (hK _ _ _ h₁ (.bool _) k₁ nofun))
  · exact h₁.elim

theorem se_neg {a : E} {y : Expr} {pos : Pos} (F : Fx G d c A env lay Sys base st s) (ha : SE G d c a y) :
    Snd G.prog G.w G.mg A (NN st.H Sys) Sys s false (eval (.UnaryOp .USub y pos) env) (WE (G.cx d) (.neg a) st) := by
  intro Q X K E hW hK hX
  simp only [we_0, we_1, we_2, we_3, we_4, we_5, we_6, we_7, we_8, we_9, we_10, we_11, we_12, we_13, we_14, we_15, we_16, we_17, we_18, we_19, we_20, we_21, we_22, we_23, we_24, we_25, we_26, we_27, we_28, we_29, we_30, we_31, we_32, we_33, we_34, we_35, we_36, we_37] at hW
  refine wpAny_UnaryOp ((ha F).weak _ X _ E hW (fun u va s₁ h₁ r₁ k₁ _ => ?_) hX)
  split at h₁
  · cases r₁
    exact PyProof.Rows.neg_int (hK _ _ _ h₁ (.int _ _) (k₁.trans (Kp.tok s₁ _)) nofun)
  · exact h₁.elim

theorem se_and {a b : E} {x y : Expr} {pos : Pos} (F : Fx G d c A env lay Sys base st s) (ha : SE G d c a x) (hb : SE G d c b y) :
    Snd G.prog G.w G.mg A (NN st.H Sys) Sys s false (eval (.BoolOp .And [x, y] pos) env) (WE (G.cx d) (.and a b) st) := by
  intro Q X K E hW hK hX
  simp only [we_0, we_1, we_2, we_3, we_4, we_5, we_6, we_7, we_8, we_9, we_10, we_11, we_12, we_13, we_14, we_15, we_16, we_17, we_18, we_19, we_20, we_21, we_22, we_23, we_24, we_25, we_26, we_27, we_28, we_29, we_30, we_31, we_32, we_33, we_34, we_35, we_36, we_37] at hW
  refine wpAny_And2 ((ha F).weak _ X _ E hW (fun u va s₁ h₁ r₁ k₁ _ => ?_) hX)
  split at h₁
  · rename_i hb'
    obtain rfl := truth_bool r₁ hb'
    refine wpAny_truthy_bool ?_
    rw [if_pos rfl]
    exact (hb (F.keeps k₁)).weak _ X _ E h₁ (fun v val s' q r k _ => hK v val s' q r (k₁.trans k) nofun) fun e s' q => hX e s' (Rz.trans k₁ q)
  · rename_i hb'
    obtain rfl := truth_bool r₁ hb'
    refine wpAny_truthy_bool ?_
    rw [if_neg (by simp)]
    exact hK _ _ _ h₁ r₁ k₁ nofun
  · exact h₁.elim
theorem se_or {a b : E} {x y : Expr} {pos : Pos} (F : Fx G d c A env lay Sys base st s) (ha : SE G d c a x) (hb : SE G d c b y) :
    Snd G.prog G.w G.mg A (NN st.H Sys) Sys s false (eval (.BoolOp .Or [x, y] pos) env) (WE (G.cx d) (.or a b) st) := by
  intro Q X K E hW hK hX
  simp only [we_0, we_1, we_2, we_3, we_4, we_5, we_6, we_7, we_8, we_9, we_10, we_11, we_12, we_13, we_14, we_15, we_16, we_17, we_18, we_19, we_20, we_21, we_22, we_23, we_24, we_25, we_26, we_27, we_28, we_29, we_30, we_31, we_32, we_33, we_34, we_35, we_36, we_37] at hW
  refine wpAny_Or2 ((ha F).weak _ X _ E hW (fun u va s₁ h₁ r₁ k₁ _ => ?_) hX)
  split at h₁
  · rename_i hb'
    obtain rfl := truth_bool r₁ hb'
    refine wpAny_truthy_bool ?_
    rw [if_pos rfl]
    exact hK _ _ _ h₁ r₁ k₁ nofun
  · rename_i hb'
    obtain rfl := truth_bool r₁ hb'
    refine wpAny_truthy_bool ?_
    rw [if_neg (by simp)]
    exact (hb (F.keeps k₁)).weak _ X _ E h₁ (fun v val s' q r k _ => hK v val s' q r (k₁.trans k) nofun) fun e s' q => hX e s' (Rz.trans k₁ q)
  · exact h₁.elim

end

end Mine
end

section
set_option autoImplicit false
namespace Mine
open PySem

/-- a value that leaves its frame -/
theorem frz_ok {hsh : HFn} {H B : AH} {Sys Sys' : Addr → Prop} {h : Heap} (ho : HO hsh H Sys' h) (hsub : ∀ a, Sys a → Sys' a) (hB : ∀ a, B a ≠ none → H a ≠ none) (hown : ∀ a, H a ≠ none → B a = none → ¬ Sys a) :
    ∀ (n : Nat), (∀ (v v' : V) (x : Value), frz H B n v = some v' → RV (NN H Sys') h v x → RV (NN B Sys) h v' x) ∧ (∀ (vs vs' : List V) (xs : List Value), frzs H B n vs = some vs' → RVs (NN H Sys') h vs xs → RVs (NN B Sys) h vs' xs) := by
  have hN : ∀ a, ¬ NN H Sys' a → ¬ NN B Sys a := fun a q q' => q (q'.elim (fun e => .inl (hB a e)) fun e => .inr (hsub a e))
  have all : ∀ n, (∀ (v v' : V) (x : Value), frz H B n v = some v' → RV (NN H Sys') h v x → RV (NN B Sys) h v' x) → (∀ (vs vs' : List V) (xs : List Value), frzs H B n vs = some vs' → RVs (NN H Sys') h vs xs → RVs (NN B Sys) h vs' xs) := by
    intro n hv vs
    induction vs with
    | nil => intro vs' xs e r; simp [fzs_nil, fzs_cons] at e; subst e; cases r; exact .nil
    | cons v vs ih =>
      intro vs' xs e r
      cases r with
      | cons r1 r2 =>
        simp only [fzs_nil, fzs_cons] at e
        split at e
        · rename_i x' xs' e1 e2
          cases e
          exact .cons (hv _ _ _ e1 r1) (ih _ _ e2 r2)
        · cases e
  intro n
  induction n with
  | zero =>
    have h0 : ∀ (v v' : V) (x : Value), frz H B 0 v = some v' → RV (NN H Sys') h v x → RV (NN B Sys) h v' x := fun v v' x e _ => by simp [fz_zero, fz_none, fz_bool, fz_int, fz_str, fz_tup, fz_lst, fz_inst, fz_ref, fz_iref] at e
    exact ⟨h0, all 0 h0⟩
  | succ n ih =>
    have hs : ∀ (v v' : V) (x : Value), frz H B (n + 1) v = some v' → RV (NN H Sys') h v x → RV (NN B Sys) h v' x := by
      intro v v' x e r
      cases r with
      | none => simp [fz_zero, fz_none, fz_bool, fz_int, fz_str, fz_tup, fz_lst, fz_inst, fz_ref, fz_iref] at e; subst e; exact .none
      | bool b => simp [fz_zero, fz_none, fz_bool, fz_int, fz_str, fz_tup, fz_lst, fz_inst, fz_ref, fz_iref] at e; subst e; exact .bool b
      | int i t => simp [fz_zero, fz_none, fz_bool, fz_int, fz_str, fz_tup, fz_lst, fz_inst, fz_ref, fz_iref] at e; subst e; exact .int i t
      | str u t o => simp [fz_zero, fz_none, fz_bool, fz_int, fz_str, fz_tup, fz_lst, fz_inst, fz_ref, fz_iref] at e; subst e; exact .str u t o
      | tup h1 h2 h3 h4 =>
        simp only [fz_zero, fz_none, fz_bool, fz_int, fz_str, fz_tup, fz_lst, fz_inst, fz_ref, fz_iref, Option.map_eq_some_iff] at e
        obtain ⟨vs', e1, rfl⟩ := e
        exact .tup (hN _ h1) h2 h3 (ih.2 _ _ _ e1 h4)
      | lst h1 h2 h3 h4 =>
        simp only [fz_zero, fz_none, fz_bool, fz_int, fz_str, fz_tup, fz_lst, fz_inst, fz_ref, fz_iref, Option.map_eq_some_iff] at e
        obtain ⟨vs', e1, rfl⟩ := e
        exact .lst (hN _ h1) h2 h3 (ih.2 _ _ _ e1 h4)
      | iref h1 h2 =>
        rename_i xa a C ns
        simp only [fz_zero, fz_none, fz_bool, fz_int, fz_str, fz_tup, fz_lst, fz_inst, fz_ref, fz_iref] at e
        split at e
        · cases e; exact .iref (hN _ h1) h2
        · rename_i hBa
          split at e
          · rename_i c ns' vs hH
            by_cases hns : ns' = ns
            · rw [if_pos hns] at e
              simp only [Option.map_eq_some_iff] at e
              obtain ⟨vs', e1, rfl⟩ := e
              cases ho _ _ hH with
              | inst g1 g2 =>
                rw [hns] at g1
                refine .inst (hN _ h1) (fun q => ?_) h2 g1 (ih.2 _ _ _ e1 g2)
                rcases q with q | q
                · exact q hBa
                · exact hown a (by rw [hH]; exact nofun) hBa q
            · rw [if_neg hns] at e; cases e
          · cases e
      | inst h1 h2 h3 h5 h6 =>
        simp only [fz_zero, fz_none, fz_bool, fz_int, fz_str, fz_tup, fz_lst, fz_inst, fz_ref, fz_iref, Option.map_eq_some_iff] at e
        obtain ⟨vs', e1, rfl⟩ := e
        exact .inst (hN _ h1) (hN _ h2) h3 h5 (ih.2 _ _ _ e1 h6)
      | exc h1 h2 h3 => cases (show some _ = some _ from e); exact .exc (hN _ h1) (hN _ h2) h3
      | ref a =>
        simp only [fz_zero, fz_none, fz_bool, fz_int, fz_str, fz_tup, fz_lst, fz_inst, fz_ref, fz_iref] at e
        split at e
        · cases e; exact .ref a
        · rename_i hBa
          split at e
          · rename_i vs hH
            simp only [Option.map_eq_some_iff] at e
            obtain ⟨vs', e1, rfl⟩ := e
            cases ho _ _ hH with
            | list h1 h2 h3 =>
              refine .lst (fun q => ?_) h1 h2 (ih.2 _ _ _ e1 h3)
              rcases q with q | q
              · exact q hBa
              · exact hown a (by rw [hH]; simp) hBa q
          · cases e
    exact ⟨hs, all (n + 1) hs⟩


/-- what a call leaves to its caller -/
structure Given (hsh : HFn) (H H' : AH) (Sys Sys' : Addr → Prop) (s s' : Shared) : Prop where
  ho : HO hsh H' Sys' s'.heap
  sub : ∀ a, Sys a → Sys' a
  stay : ∀ a, H a ≠ none → H' a ≠ none
  own : ∀ a, H' a ≠ none → H a = none → s.heap.get? a = none
  dis : ∀ a, Sys' a → H' a = none
theorem Given.before {hsh : HFn} {H H' : AH} {Sys Sys' Z : Addr → Prop} {s₀ s s' : Shared} (g : Given hsh H H' Sys Sys' s s') (k : Kp Z s₀ s) : Given hsh H H' Sys Sys' s₀ s' := ⟨g.ho, g.sub, g.stay, fun a q q' => k.hw.ext (g.own a q q'), g.dis⟩
end Mine
end

section
set_option autoImplicit false
namespace Mine
open PySem

theorem dictP_inv {H : AH} {u : V} {P : Nat → List (List At × V) → Prop} (h : dictP H u P) : ∃ a kvs, u = .ref a ∧ H a = some (.dict kvs) ∧ P a kvs := by
  cases u with
  | ref a =>
    have h : (match H a with
      | some (.dict kvs) => P a kvs
      | _ => False) := h
    cases e : H a with
    | none => rw [e] at h; exact h.elim
    | some o =>
      rw [e] at h
      cases o with
      | dict kvs => exact ⟨a, kvs, rfl, e, h⟩
      | _ => exact h.elim
  | _ => exact False.elim h
theorem keyP_inv {v : V} {P : List At → Prop} (h : keyP v P) : ∃ ks, v = keyV ks ∧ P ks := by
  cases v with
  | tup vs =>
    have key : ∀ {vs : List V} {ks : List At}, atsOf vs = some ks → vs = ks.map atV := by
      intro vs
      induction vs with
      | nil => intro ks e; cases e; rfl
      | cons v vs ih =>
        intro ks e
        have e : (match atOf v, atsOf vs with
          | some a, some as => some (a :: as)
          | _, _ => none) = some ks := e
        cases e1 : atOf v with
        | none => rw [e1] at e; cases e
        | some a =>
          cases e2 : atsOf vs with
          | none => rw [e1, e2] at e; cases e
          | some as =>
            rw [e1, e2] at e
            cases e
            rw [ih e2]
            cases v <;> first | cases e1 | skip
            · rfl
            · rfl
    have h : (match atsOf vs with
      | some ks => P ks
      | none => False) := h
    cases e : atsOf vs with
    | none => rw [e] at h; exact h.elim
    | some ks => rw [e] at h; exact ⟨ks, by rw [key e]; rfl, h⟩
  | _ => exact False.elim h

noncomputable def atIs : At → Value → Bool
  | .i n, v => Value.isInt n v
  | .s x, v => Value.isStrOf x v
theorem atIs_shape {k : At} {v : Value} (h : atIs k v = true) : (∃ n t, k = .i n ∧ v = .int n t) ∨ (∃ x t, k = .s x ∧ v = .str x t) := by
  cases k with
  | i n => obtain ⟨t, rfl⟩ := Value.isInt_shape h; exact .inl ⟨n, t, rfl, rfl⟩
  | s x => obtain ⟨t, rfl⟩ := Value.isStrOf_shape h; exact .inr ⟨x, t, rfl, rfl⟩
noncomputable def mixKind (prog : Program) (w : World) : KeyKind prog w At where
  is := atIs
  hash := atHash w
  inj := fun v a b ha hb => by
    rcases atIs_shape ha with ⟨n, t, rfl, rfl⟩ | ⟨x, t, rfl, rfl⟩ <;> rcases atIs_shape hb with ⟨m, u, rfl, e⟩ | ⟨y, u, rfl, e⟩ <;> cases e <;> rfl
  byValue := fun k v h => by
    rcases atIs_shape h with ⟨n, t, rfl, rfl⟩ | ⟨x, t, rfl, rfl⟩ <;> rfl
  pyHash := fun hv h => by
    rcases atIs_shape hv with ⟨n, t, rfl, rfl⟩ | ⟨x, t, rfl, rfl⟩
    · exact wpAny_pyHash_int h
    · exact wpAny_pyHash_str h
  eqBool := fun hu hv h => by
    rcases atIs_shape hu with ⟨n, t, rfl, rfl⟩ | ⟨x, t, rfl, rfl⟩ <;> rcases atIs_shape hv with ⟨m, u, rfl, rfl⟩ | ⟨y, u, rfl, rfl⟩
    · refine wpAny_eqBool_int ?_
      rw [show (n == m) = decide (At.i n = At.i m) by by_cases e : n = m <;> simp [e]]
      exact h
    · exact SeqAt.EqAt.int_str _ _ _ _ _ _ _ _ h
    · exact SeqAt.EqAt.str_int _ _ _ _ _ _ _ _ h
    · refine wpAny_eqBool_str ?_
      rw [show decide (x = y) = decide (At.s x = At.s y) by by_cases e : x = y <;> simp [e]]
      exact h
  «strs» := fun k x t v h => by
    rcases atIs_shape h with ⟨n, u, rfl, e⟩ | ⟨y, u, rfl, e⟩
    · cases e
    · cases e; cases v <;> rfl

theorem items_at {prog : Program} {w : World} {N : Addr → Prop} {h : Heap} : ∀ {ks : List At} {xs : List Value}, RVs N h (ks.map atV) xs → ItemsAre (mixKind prog w) ks xs
  | [], _, r => by cases r; exact .nil
  | k :: ks, _, r => by
    cases r with
    | cons r1 r2 =>
      refine .cons ?_ (items_at r2)
      cases k with
      | i n => cases r1; exact (beq_iff_eq (a := n) (b := n)).mpr rfl
      | s x => cases r1; exact (beq_iff_eq (a := x) (b := x)).mpr rfl
theorem key_at {prog : Program} {w : World} {N : Addr → Prop} {h : Heap} {ks : List At} {a : Value} (r : RV N h (keyV ks) a) : ∃ ka, a = .ref ka ∧ IsTupleKey (mixKind prog w) h ks ka := by
  cases r with
  | tup h1 h2 h3 h4 => exact ⟨_, rfl, _, _, _, h2, rfl, rfl, items_at h4⟩

structure DAt (prog : Program) (w : World) (N : Addr → Prop) (h : Heap) (b : Addr) (kvs : List (List At × V)) (xs : List (List At × Addr × Value)) : Prop where
  of : h.DictOfH (tupleKind (mixKind prog w)) b xs
  vals : RVs N h (kvs.map (·.2)) (xs.map (·.2.2))
  keys : kvs.map (·.1) = xs.map (·.1)
  sm : (b == sysModules) = false
  len : xs.length ≤ sizeLine
theorem dict_at {prog : Program} {w : World} {hsh : HFn} {H : AH} {Sys : Addr → Prop} {h : Heap} {b : Nat} {kvs : List (List At × V)} (hH : hsh = wHash w) (ho : HO hsh H Sys h) (hd : H b = some (.dict kvs)) : ∃ xs, DAt prog w (NN H Sys) h b kvs xs := by
  cases ho b _ hd with
  | dict a1 a2 a3 a4 a5 a6 a7 a8 =>
    rename_i es ep xs
    refine ⟨xs, ⟨_, es, ep, a1, ⟨rfl, rfl, rfl⟩, rfl, ?_, fun x hx => ?_, a3⟩, a7, a5, a8, a4⟩
    · rw [a2, hH]; rfl
    · obtain ⟨ka, e, hk⟩ := key_at (prog := prog) (w := w) (a6 x hx)
      cases e; exact hk
theorem look_at {N : Addr → Prop} {h : Heap} (ks : List At) : ∀ {kvs : List (List At × V)} {xs : List (List At × Addr × Value)}, RVs N h (kvs.map (·.2)) (xs.map (·.2.2)) → kvs.map (·.1) = xs.map (·.1) →
    (dlook ks kvs = none ∧ atKey xs ks = none) ∨ (∃ v p, dlook ks kvs = some v ∧ atKey xs ks = some p ∧ RV N h v p.2)
  | [], [], _, _ => .inl ⟨rfl, rfl⟩
  | [], _ :: _, _, e => by cases e
  | _ :: _, [], _, e => by cases e
  | (k, v) :: kvs, (k', b, x) :: xs, r, e => by
    simp only [List.map_cons, List.cons.injEq] at e
    obtain ⟨rfl, e⟩ := e
    cases r with
    | cons r1 r2 =>
      by_cases hk : k = ks
      · exact .inr ⟨v, (b, x), by simp [dlook, hk], by simp [atKey, hk], r1⟩
      · have e1 : dlook ks ((k, v) :: kvs) = dlook ks kvs := by simp [dlook, hk]
        have e2 : atKey ((k, b, x) :: xs) ks = atKey xs ks := by simp [atKey, hk]
        rw [e1, e2]
        exact look_at ks r2 e

section
variable {prog : Program} {w : World} {A : Around} {E : Value → Shared → Prop} {s : Shared} {d : Nat}
theorem dRoom (R : RmF d A) : (tupleKind (mixKind prog w)).room A.in1 := tupleKind_room_in1 (by have := R.units; omega)

theorem contains_dict {b a : Addr} {ks : List At} {xs : List (List At × Addr × Value)} {Q : Bool → Shared → Prop} (hu : (tupleKind (mixKind prog w)).room A.in1) (hk : IsTupleKey (mixKind prog w) s.heap ks a) (hd : (b == sysModules) = false) (hm : s.heap.DictOfH (tupleKind (mixKind prog w)) b xs)
    (h : Q (atKey xs ks).isSome { s with toks := s.toks + (ks.length + 1) }) : wpAny (model prog w) A (contains (.ref b) (.ref a)) Q E s := by
  unfold contains
  refine wpAny_holding (wpAny_bind (wpAny_specialOf hm.typeIs slot_dict_contains.lookup ?_))
  refine wpAny_ite_false rfl ?_
  refine wpAny_bind (wpAny_callSpecialUnlessNone?_slot (name := Str.ofString "__contains__") hm.typeIs slot_dict_contains (wpAny_call_entry slot_dict_contains hm.typeIs entry_dict_contains ?_ (args_dict_contains _ _)))
  show wpAny _ _ (dictGet b (.ref a) >>= _) _ _ s
  refine wpAny_bind (wpAny_dictGet_heap hu hk hm ?_)
  cases hf : atKey xs ks with
  | some p =>
    rw [hf] at h
    show wpAny _ _ (ret (.bool true)) _ _ _
    exact wpAny_pure ⟨_, rfl, wpAny_truthy_bool h⟩
  | none =>
    rw [hf] at h
    show wpAny _ _ (Builtin.Dict.pendingKey? b (.ref a) >>= _) _ _ _
    exact wpAny_bind (wpAny_pendingKey_other hd (wpAny_pure ⟨_, rfl, wpAny_truthy_bool h⟩))
theorem in_dict {b a : Addr} {ks : List At} {xs : List (List At × Addr × Value)} {K : Value → Shared → Prop} (hu : (tupleKind (mixKind prog w)).room A.in1) (hk : IsTupleKey (mixKind prog w) s.heap ks a) (hd : (b == sysModules) = false) (hm : s.heap.DictOfH (tupleKind (mixKind prog w)) b xs)
    (h : K (.bool (atKey xs ks).isSome) { s with toks := s.toks + (ks.length + 1) }) : wpAny (model prog w) A (compareOp .In (.ref a) (.ref b)) K E s :=
  wpAny_bind (contains_dict hu hk hd hm (wpAny_pure h))
theorem notIn_dict {b a : Addr} {ks : List At} {xs : List (List At × Addr × Value)} {K : Value → Shared → Prop} (hu : (tupleKind (mixKind prog w)).room A.in1) (hk : IsTupleKey (mixKind prog w) s.heap ks a) (hd : (b == sysModules) = false) (hm : s.heap.DictOfH (tupleKind (mixKind prog w)) b xs)
    (h : K (.bool !(atKey xs ks).isSome) { s with toks := s.toks + (ks.length + 1) }) : wpAny (model prog w) A (compareOp .NotIn (.ref a) (.ref b)) K E s :=
  wpAny_bind (contains_dict hu hk hd hm (wpAny_pure h))
end
end Mine
end

section
set_option autoImplicit false
namespace Mine
open PySem PySem.F
end Mine
end

section
set_option autoImplicit false
namespace Mine
open PySem

noncomputable def RdP (h : Heap) (v : V) (x : Value) : Prop := ∀ d, toD v = some d → (∃ as, Reads h x d as) ∧ d.canLay0 = true
noncomputable def RdPs (h : Heap) (vs : List V) (xs : List Value) : Prop := ∀ ds, toDs vs = some ds → (∃ as, ReadsAll h xs ds as) ∧ PyData.canLayAll0 ds = true
section
variable {N : Addr → Prop} {h : Heap}
theorem rd_none : RdP h .none .none := fun _ e => by cases (show some PyData.none = some _ from e); exact ⟨⟨_, .none⟩, by simp [PyData.canLay0]⟩
theorem rd_bool (b : Bool) : RdP h (.bool b) (.bool b) := fun _ e => by cases (show some (PyData.bool b) = some _ from e); exact ⟨⟨_, .bool b⟩, by simp [PyData.canLay0]⟩
theorem rd_int (i : Int) (t : Tok) : RdP h (.int i) (.int i t) := fun _ e => by cases (show some (PyData.int i) = some _ from e); exact ⟨⟨_, .int i _⟩, by simp [PyData.canLay0]⟩
theorem rd_str (u : Str) (t : Tok) (ho : SOk u) : RdP h (.str u) (.str u t) := fun _ e => by cases (show some (PyData.str u) = some _ from e); exact ⟨⟨_, .str u _⟩, by simp [PyData.canLay0, ho.strOk]⟩
theorem rd_tup {a : Addr} {xs : Array Value} {n : Nat} {vs : List V} (h2 : IsT h a xs n) (i : RdPs h vs xs.toList) : RdP h (.tup vs) (.ref a) := fun d e => by
  obtain ⟨ds, e1, rfl⟩ := Option.map_eq_some_iff.mp (show (toDs vs).map PyData.tuple = some d from e)
  obtain ⟨⟨as, ra⟩, hc⟩ := i ds e1
  exact ⟨⟨_, .tuple h2 rfl rfl ra⟩, by simpa [PyData.canLay0] using hc⟩
theorem rd_lst {a : Addr} {xs : Array Value} {n : Nat} {vs : List V} (h2 : IsL h a xs n) (i : RdPs h vs xs.toList) : RdP h (.lst vs) (.ref a) := fun d e => by
  obtain ⟨ds, e1, rfl⟩ := Option.map_eq_some_iff.mp (show (toDs vs).map PyData.list = some d from e)
  obtain ⟨⟨as, ra⟩, hc⟩ := i ds e1
  exact ⟨⟨_, .list h2 rfl rfl ra⟩, by simpa [PyData.canLay0] using hc⟩
theorem rd_nil : RdPs h [] [] := fun _ e => by cases (show some ([] : List PyData) = some _ from e); exact ⟨⟨_, .nil⟩, by simp [PyData.canLayAll0]⟩
theorem rd_cons {v : V} {x : Value} {vs : List V} {xs : List Value} (i : RdP h v x) (j : RdPs h vs xs) : RdPs h (v :: vs) (x :: xs) := fun ds e => by
  have e : (match toD v, toDs vs with
    | some d, some ds => some (d :: ds)
    | _, _ => none) = some ds := e
  cases e1 : toD v with
  | none => rw [e1] at e; cases e
  | some d =>
    cases e2 : toDs vs with
    | none => rw [e1, e2] at e; cases e
    | some ds' =>
      rw [e1, e2] at e
      cases e
      obtain ⟨⟨as, ra⟩, ha⟩ := i d e1
      obtain ⟨⟨bs, rb⟩, hb⟩ := j ds' e2
      exact ⟨⟨_, .cons ra rb⟩, by simp [PyData.canLayAll0, ha, hb]⟩
theorem reads_of (v : V) (x : Value) (d : PyData) (r : RV N h v x) : toD v = some d → (∃ as, Reads h x d as) ∧ d.canLay0 = true :=
  RV.rec (motive_1 := fun v x _ => RdP h v x) (motive_2 := fun vs xs _ => RdPs h vs xs) rd_none rd_bool rd_int rd_str (fun _ h2 _ _ i => rd_tup h2 i) (fun _ h2 _ _ i => rd_lst h2 i) (fun _ _ e => nomatch e)
    (fun _ _ _ e => nomatch e) (fun _ _ _ _ _ _ _ e => nomatch e)
    (fun _ _ _ _ e => nomatch e)
    rd_nil (fun _ _ i j => rd_cons i j) r d
theorem readsAll_of (vs : List V) (xs : List Value) (ds : List PyData) (r : RVs N h vs xs) : toDs vs = some ds → (∃ as, ReadsAll h xs ds as) ∧ PyData.canLayAll0 ds = true :=
  r.ind (P := fun vs xs => RdPs h vs xs) rd_nil (fun a j => rd_cons (fun d => reads_of _ _ d a) j) ds
end

theorem reads_res {hsh : HFn} {H : AH} {Sys : Addr → Prop} {h : Heap} (ho : HO hsh H Sys h) {v : V} {x : Value} {d : PyData} (r : RV (NN H Sys) h v x) (e : toD (resV H v) = some d) : (∃ as, Reads h x d as) ∧ d.canLay0 = true := by
  cases v with
  | ref a =>
    have e : toD (match H a with
      | some (.list vs) => .lst vs
      | _ => .ref a) = some d := e
    split at e
    · rename_i vs hv
      cases r
      cases ho a _ hv with
      | list h1 h2 h3 => exact rd_lst h1 (fun ds => readsAll_of vs _ ds h3) d e
    · cases e
  | _ => exact reads_of _ _ _ r e

section
variable {hsh : HFn} {prog : Program} {w : World} {A : Around} {E : Value → Shared → Prop} {s : Shared} {H : AH} {Sys : Addr → Prop} {mg mb : Str → Option Value} {d : Nat}

theorem prim_eq {u v : V} {a b : Value} {Q : Bool → Prop} {K : Value → Shared → Prop} (R : RmF d A) (ho : HO hsh H Sys s.heap) (hW : eqV H u v Q) (ra : RV (NN H Sys) s.heap u a) (rb : RV (NN H Sys) s.heap v b)
    (hK : ∀ r, Q r → K (.bool r) s) : wpAny (model prog w) A (compareOp .Eq a b) K E s := by
  unfold eqV at hW
  split at hW
  · rename_i x y e1 e2
    obtain ⟨⟨as, r1⟩, c1⟩ := reads_res ho ra e1
    obtain ⟨⟨bs, r2⟩, c2⟩ := reads_res ho rb e2
    exact SeqAt.compareEq_reads r1 r2 c1 c2 (by have := R.units; have := hW.1; omega) (hK _ hW.2)
  · exact hW.elim
theorem prim_ne {u v : V} {a b : Value} {Q : Bool → Prop} {K : Value → Shared → Prop} (R : RmF d A) (ho : HO hsh H Sys s.heap) (hW : eqV H u v (fun r => Q (!r))) (ra : RV (NN H Sys) s.heap u a) (rb : RV (NN H Sys) s.heap v b)
    (hK : ∀ r, Q r → K (.bool r) s) : wpAny (model prog w) A (compareOp .NotEq a b) K E s := by
  unfold eqV at hW
  split at hW
  · rename_i x y e1 e2
    obtain ⟨⟨as, r1⟩, c1⟩ := reads_res ho ra e1
    obtain ⟨⟨bs, r2⟩, c2⟩ := reads_res ho rb e2
    exact SeqAt.compareNe_reads r1 r2 c1 c2 (by have := R.units; have := hW.1; omega) (hK _ hW.2)
  · exact hW.elim

theorem none_val {N : Addr → Prop} {h : Heap} {v : V} {x : Value} {W : Prop} {P : Value → Prop} (hW : noneP v W) (r : RV N h v x) (k : W → P .none) : P x := by
  cases r with
  | none => exact k hW
  | _ => exact False.elim hW
theorem isNone_val {N : Addr → Prop} {h : Heap} {v : V} {x : Value} (r : RV N h v x) : (x == Value.none) = isNone v := by
  cases r <;> rfl
theorem prim_in {u v : V} {a b : Value} {Q : Bool → Prop} {K : Value → Shared → Prop} (R : RmF d A) (hH : hsh = wHash w) (ho : HO hsh H Sys s.heap) (hW : inV H u v Q) (ra : RV (NN H Sys) s.heap u a) (rb : RV (NN H Sys) s.heap v b)
    (hK : ∀ r s', Q r → Kp (FZ A Sys) s s' → K (.bool r) s') : wpAny (model prog w) A (compareOp .In a b) K E s ∧ (∀ K' : Value → Shared → Prop, (∀ r s', Q r → Kp (FZ A Sys) s s' → K' (.bool (!r)) s') → wpAny (model prog w) A (compareOp .NotIn a b) K' E s) := by
  cases v with
  | str y =>
    apply RV.elim rb; intro t o
    apply str_val hW ra; intro x t' o' hW
    exact ⟨PyProof.Rows.in_str (hK _ s hW (Kp.refl s)), fun K' h' => PyProof.Rows.notIn_str (h' _ s hW (Kp.refl s))⟩
  | ref b =>
    apply RV.elim rb
    have hW : dictP H (.ref b) fun _ kvs => keyP u fun ks => Q (dlook ks kvs).isSome := hW
    obtain ⟨b', kvs, e', hd, hW⟩ := dictP_inv hW
    cases e'
    obtain ⟨ks, hks, hV⟩ := keyP_inv hW
    subst hks
    obtain ⟨xs, D⟩ := dict_at (prog := prog) hH ho hd
    obtain ⟨ka, rfl, hka⟩ := key_at (prog := prog) (w := w) ra
    have e : (dlook ks kvs).isSome = (atKey xs ks).isSome := by
      rcases look_at ks D.vals D.keys with ⟨e1, e2⟩ | ⟨v, p, e1, e2, _⟩ <;> rw [e1, e2] <;> rfl
    rw [e] at hV
    exact ⟨in_dict (dRoom R) hka D.sm D.of (hK _ _ hV (Kp.tok _ _)), fun K' h' => notIn_dict (dRoom R) hka D.sm D.of (h' _ _ hV (Kp.tok _ _))⟩
  | _ => exact False.elim hW

theorem prim_cmp {op : Cop} {u v : V} {a b : Value} {Q : Bool → Prop} {K : Value → Shared → Prop} (R : RmF d A) (hH : hsh = wHash w) (ho : HO hsh H Sys s.heap) (hW : cmpV H op u v Q) (ra : RV (NN H Sys) s.heap u a) (rb : RV (NN H Sys) s.heap v b)
    (hK : ∀ r s', Q r → Kp (FZ A Sys) s s' → K (.bool r) s') : wpAny (model prog w) A (compareOp (copOf op) a b) K E s := by
  have hk0 : ∀ r, Q r → K (.bool r) s := fun r q => hK r s q (Kp.refl s)
  cases op with
  | eq => exact prim_eq R ho hW ra rb hk0
  | ne => exact prim_ne R ho hW ra rb hk0
  | lt =>
    apply int_val hW ra; intro i t hW
    apply int_val hW rb; intro j t' hW
    exact PyProof.Rows.lt_int (hk0 _ hW)
  | le =>
    apply int_val hW ra; intro i t hW
    apply int_val hW rb; intro j t' hW
    exact PyProof.Rows.le_int (hk0 _ hW)
  | gt =>
    apply int_val hW ra; intro i t hW
    apply int_val hW rb; intro j t' hW
    exact PyProof.Rows.gt_int (hk0 _ hW)
  | ge =>
    apply int_val hW ra; intro i t hW
    apply int_val hW rb; intro j t' hW
    exact PyProof.Rows.ge_int (hk0 _ hW)
  | is =>
    apply none_val hW rb; intro hW
    refine is_none ?_
    rw [isNone_val ra]; exact hk0 _ hW
  | isnot =>
    apply none_val hW rb; intro hW
    refine isNot_none ?_
    rw [isNone_val ra]; exact hk0 _ hW
  | isin => exact (prim_in R hH ho hW ra rb hK).1
  | notin => exact (prim_in (Q := fun r => Q (!r)) (K := fun _ _ => True) R hH ho hW ra rb fun _ _ _ _ => trivial).2 K fun r s' q k => by exact hK _ s' q k
end

section
variable {G : PG} {d : Nat} {c : Sc} {A : Around} {env : Env} {lay : Nat → Option Place} {Sys : Addr → Prop} {base : Heap} {st : St} {s : Shared}

/-- a chain of comparisons -/
noncomputable abbrev SCh (G : PG) (d : Nat) (c : Sc) (ch : Ch) (ops : List CmpOp) (rs : List Expr) : Prop :=
  ∀ {A : Around} {env : Env} {lay : Nat → Option Place} {Sys : Addr → Prop} {base : Heap} {st : St} {s : Shared}, Fx G d c A env lay Sys base st s →
    ∀ (u : V) (a : Value) (pos : Pos), RV (NN st.H Sys) s.heap u a → ∀ (Q : Bool → Prop) (X : String → Prop), WCh (G.cx d) ch st u Q X →
      (∀ (K E : Value → Shared → Prop), (∀ r s', Q r → Kp (FZ A Sys) s s' → K (.bool r) s') → (∀ e s', Rz G.mg A Sys s X e s' → E e s') → wpAny (model G.prog G.w) A (compareChain pos a ops (evalEach rs env)) K E s) ∧
      (∀ (K : Bool → Shared → Prop) (E : Value → Shared → Prop), (∀ r s', Q r → Kp (FZ A Sys) s s' → K r s') → (∀ e s', Rz G.mg A Sys s X e s' → E e s') → wpAny (model G.prog G.w) A (testChain pos a ops (evalEach rs env)) K E s)

theorem sch_one {op : Cop} {e : E} {x : Expr} (he : SE G d c e x) : SCh G d c (.one op e) [copOf op] [x] := by
  intro A env lay Sys base st s F u a pos ru Q X hW
  simp only [wch_0, wch_1] at hW
  have key : ∀ (K E : Value → Shared → Prop), (∀ r s', Q r → Kp (FZ A Sys) s s' → K (.bool r) s') → (∀ e s', Rz G.mg A Sys s X e s' → E e s') →
      wpAny (model G.prog G.w) A (eval x env) (fun b s₁ => wpAny (model G.prog G.w) A (compareOp (copOf op) a b) K E s₁) E s := by
    intro K E hK hX
    refine (he F).weak _ X _ E hW (fun v b s₁ h₁ r₁ k₁ _ => ?_) hX
    exact prim_cmp (F.keeps k₁).rm rfl (F.keeps k₁).sim.objs h₁ (ru.kz k₁.hw) r₁ fun r s' q k => hK r s' q (k₁.trans k)
  refine ⟨fun K E hK hX => PyProof.Rows.chain_last (key K E hK hX), fun K E hK hX => ?_⟩
  exact PyProof.Rows.test_last (key (fun v s' => wpAny (model G.prog G.w) A (truthy v) K E s') E (fun r s' q k => wpAny_truthy_bool (hK r s' q k)) hX)
theorem sch_more {op : Cop} {e : E} {x x2 : Expr} {ch : Ch} {o2 : CmpOp} {ops : List CmpOp} {xs : List Expr} (he : SE G d c e x) (hc : SCh G d c ch (o2 :: ops) (x2 :: xs)) : SCh G d c (.more op e ch) (copOf op :: o2 :: ops) (x :: x2 :: xs) := by
  intro A env lay Sys base st s F u a pos ru Q X hW
  simp only [wch_0, wch_1] at hW
  constructor
  · intro K E hK hX
    refine PyProof.Rows.chain_link ((he F).weak _ X _ E hW (fun v b s₁ h₁ r₁ k₁ _ => ?_) hX)
    refine prim_cmp (F.keeps k₁).rm rfl (F.keeps k₁).sim.objs h₁ (ru.kz k₁.hw) r₁ fun r s₂ q k₂ => wpAny_truthy_bool ?_
    have k₁ := k₁.trans k₂
    cases r
    · simp only [Bool.false_eq_true, if_false] at q ⊢; exact hK false s₂ q k₁
    · simp only [if_true] at q ⊢
      exact (hc (F.keeps k₁) v b pos (r₁.kz k₂.hw) Q X q).1 K E (fun r s' q k => hK r s' q (k₁.trans k)) fun e s' q => hX e s' (Rz.trans k₁ q)
  · intro K E hK hX
    refine PyProof.Rows.test_link ((he F).weak _ X _ E hW (fun v b s₁ h₁ r₁ k₁ _ => ?_) hX)
    refine prim_cmp (F.keeps k₁).rm rfl (F.keeps k₁).sim.objs h₁ (ru.kz k₁.hw) r₁ fun r s₂ q k₂ => wpAny_truthy_bool ?_
    have k₁ := k₁.trans k₂
    cases r
    · simp only [Bool.false_eq_true, if_false] at q ⊢; exact hK false s₂ q k₁
    · simp only [if_true] at q ⊢
      exact (hc (F.keeps k₁) v b pos (r₁.kz k₂.hw) Q X q).2 K E (fun r s' q k => hK r s' q (k₁.trans k)) fun e s' q => hX e s' (Rz.trans k₁ q)
end

end Mine
end

section
set_option autoImplicit false
namespace Mine
open PySem

section
variable {hsh : HFn} {prog : Program} {w : World} {A : Around} {E : Value → Shared → Prop} {s : Shared} {H : AH} {Sys : Addr → Prop} {mg mb : Str → Option Value} {d : Nat}

theorem idx_eq (n : Nat) (i : Int) : idx n i = seqIndex? i n := by
  unfold idx seqIndex?
  by_cases h : 0 ≤ i
  · rw [if_pos h]
    have h' : ¬ i < 0 := by omega
    simp only [h', if_false]
    by_cases h2 : i < n
    · simp [h, h2]
    · simp [h2]
  · rw [if_neg h]
    have h' : i < 0 := by omega
    simp only [h', if_true]
    by_cases h2 : 0 ≤ i + n
    · have h3 : i + n < n := by omega
      simp [h2, h3]
    · simp [h2]
theorem idx_some {n k : Nat} {i : Int} (h : idx n i = some k) : k < n ∧ -(n : Int) ≤ i ∧ i < n ∧ (0 ≤ i → k = i.toNat) ∧ (i < 0 → k = (i + n).toNat) := by
  unfold idx at h
  split at h
  · split at h
    · cases h; omega
    · cases h
  · split at h
    · cases h; omega
    · cases h

theorem get_list {l : Addr} {xs : Array Value} {n k : Nat} {i : Int} {u : Tok} {x : Value} {K : Value → Shared → Prop} (hl : IsL s.heap l xs n) (hz : xs.size ≤ sizeLine) (hi : idx xs.size i = some k) (hx : xs[k]? = some x)
    (h : K x s) : wpAny (model prog w) A (getItem (.ref l) (.int i u)) K E s := by
  obtain ⟨h1, h2, h3, h4, h5⟩ := idx_some hi
  have hs : sizeLine = 16777216 := rfl
  by_cases h0 : 0 ≤ i
  · exact wpAny_getItem_list hl.isList h0 (by omega) (by rw [← h4 h0]; exact hx) h
  · exact wpAny_getItem_list_neg hl.isList (by omega) (by omega) (by omega) (by rw [← h5 (by omega)]; exact hx) h

/-- an item of a row -/
inductive ItemAt (vs : List V) (i : Int) (Q : V → Prop) : Prop
  | mk (n r) : idx vs.length i = some n → vs[n]? = some r → Q r → ItemAt vs i Q
theorem item_of {vs : List V} {i : Int} {Q : V → Prop} (h : match idx vs.length i with
    | some n => (match vs[n]? with
      | some v => Q v
      | none => False)
    | none => False) : ItemAt vs i Q := by
  cases e : idx vs.length i with
  | none => rw [e] at h; exact False.elim h
  | some n =>
    rw [e] at h
    have h : (match vs[n]? with
      | some v => Q v
      | none => False) := h
    cases e' : vs[n]? with
    | none => rw [e'] at h; exact False.elim h
    | some v => rw [e'] at h; exact ⟨n, v, e, e', h⟩
theorem sub_lst {vs : List V} {v : V} {Q : V → Prop} (h : subV H (.lst vs) v Q) : intP v (ItemAt vs · Q) := by
  cases v with
  | int i => exact item_of h
  | _ => exact h
theorem sub_tup {vs : List V} {v : V} {Q : V → Prop} (h : subV H (.tup vs) v Q) : intP v (ItemAt vs · Q) := by
  cases v with
  | int i => exact item_of h
  | _ => exact h
theorem sub_str {x : Str} {v : V} {Q : V → Prop} (h : subV H (.str x) v Q) : intP v (fun i => ∃ n c, idx x.length i = some n ∧ x.cps.toList[n]? = some c ∧ Q (.str ⟨#[c]⟩)) := by
  cases v with
  | int i =>
    have h : (match idx x.length i with
      | some n => (match x.cps.toList[n]? with
        | some c => Q (.str ⟨#[c]⟩)
        | none => False)
      | none => False) := h
    cases e : idx x.length i with
    | none => rw [e] at h; exact False.elim h
    | some n =>
      rw [e] at h
      have h : (match x.cps.toList[n]? with
        | some c => Q (.str ⟨#[c]⟩)
        | none => False) := h
      cases e' : x.cps.toList[n]? with
      | none => rw [e'] at h; exact False.elim h
      | some v => rw [e'] at h; exact ⟨n, v, e, e', h⟩
  | _ => exact h
theorem sub_refE {a : Nat} {v : V} {Q : V → Prop} : subV H (.ref a) v Q = (match H a with
    | some (.dict kvs) => keyP v fun ks => (match dlook ks kvs with
      | some v => Q v
      | none => False)
    | some (.list vs) => (match v with
      | .int i => (match idx vs.length i with
        | some n => (match vs[n]? with
          | some v => Q v
          | none => False)
        | none => False)
      | _ => False)
    | _ => False) := rfl
theorem sub_ref {a : Nat} {v : V} {Q : V → Prop} (h : subV H (.ref a) v Q) : (∃ vs, H a = some (.list vs) ∧ intP v (ItemAt vs · Q)) ∨ ∃ kvs, H a = some (.dict kvs) ∧ keyP v fun ks => (match dlook ks kvs with
      | some v => Q v
      | none => False) := by
  rw [sub_refE] at h
  cases e : H a with
  | none => rw [e] at h; exact False.elim h
  | some o =>
    rw [e] at h
    cases o with
    | dict kvs => exact .inr ⟨_, rfl, h⟩
    | list vs => exact .inl ⟨_, rfl, by cases v with
      | int i => exact item_of h
      | _ => exact h⟩
    | inst => exact False.elim h
section
variable {value slice : Expr} {vs : List V} {v : V} {b : Value} {Q : V → Prop} {K : Value → Shared → Prop}
theorem sub_row {l : Addr} {xs : Array Value} {n : Nat} (hs : ∀ o i, subscripted slice false o i = operate [o, i] (getItem o i)) (h1 : IsL s.heap l xs n) (h2 : xs.size ≤ sizeLine) (h3 : RVs (NN H Sys) s.heap vs xs.toList) (hW : intP v (ItemAt vs · Q)) (rb : RV (NN H Sys) s.heap v b)
    (hK : ∀ r val s', Q r → RV (NN H Sys) s'.heap r val → Kp (FZ A Sys) s s' → K val s') : wpAny (model prog w) A (PyProof.Rows.subscriptTail value slice (.ref l) b) K E s := by
  apply int_val hW rb; intro i t hW
  obtain ⟨n, r, hn, hr, q⟩ := hW
  obtain ⟨x, e, rx⟩ := h3.get n hr
  exact PyProof.Rows.tail_any h1.isList.typeIs slot_list_getitem.lookup (get_list h1 h2 (h3.size ▸ hn) (by rw [← Array.getElem?_toList]; exact e) (hK _ _ _ q rx (Kp.refl s))) (hs _ _)
theorem prim_sub {u : V} {a : Value} (R : RmF d A) (hH : hsh = wHash w) (ho : HO hsh H Sys s.heap) (hp : plainX slice = true) (hW : subV H u v Q) (ra : RV (NN H Sys) s.heap u a) (rb : RV (NN H Sys) s.heap v b)
    (hK : ∀ r val s', Q r → RV (NN H Sys) s'.heap r val → Kp (FZ A Sys) s s' → K val s') : wpAny (model prog w) A (PyProof.Rows.subscriptTail value slice a b) K E s := by
  have hs : ∀ o i, subscripted slice false o i = operate [o, i] (getItem o i) := fun o i => by
    cases slice <;> first | rfl | exact ff hp
  cases u with
  | ref ad =>
    apply RV.elim ra
    rcases sub_ref hW with ⟨vs, hl, hW⟩ | ⟨kvs, hd, hW⟩
    · cases ho _ _ hl with
      | list h1 h2 h3 => exact sub_row hs h1 h2 h3 hW rb hK
    · skip
      obtain ⟨ks, hks, hV⟩ := keyP_inv hW
      subst hks
      obtain ⟨xs, D⟩ := dict_at (prog := prog) hH ho hd
      obtain ⟨ka, rfl, hka⟩ := key_at (prog := prog) (w := w) rb
      rcases look_at ks D.vals D.keys with ⟨e1, e2⟩ | ⟨v, p, e1, e2, rv⟩
      · rw [e1] at hV; exact hV.elim
      · rw [e1] at hV
        exact PyProof.Rows.tail_any D.of.typeIs slot_dict_getitem.lookup (wpAny_getItem_heap (dRoom R) hka D.of e2 (hK _ _ _ hV rv (Kp.tok _ _))) (hs _ _)
  | str x =>
    apply RV.elim ra; intro t hx
    apply int_val (sub_str hW) rb; intro i t' hW
    obtain ⟨n, cc, hn, hc, q⟩ := hW
    obtain ⟨h1, h2, h3, _⟩ := idx_some hn
    have hs' : x.length ≤ 16777216 := hx.1
    refine PyProof.Rows.tail_any (typeIs_str s x t) F.slot_str_getitem.lookup (PyProof.Rows.getItem_str (c := cc) ?_ ?_ (hK _ _ _ q (.str _ _ (hx.one (List.mem_of_getElem? hc))) (Kp.tok s _))) (hs _ _)
    · simp only [Bool.or_eq_false_iff, decide_eq_false_iff_not]; omega
    · rw [← idx_eq, hn]; simpa using hc
  | lst vs =>
    apply RV.elim ra; intro l xs n h0 h1 h2 h3
    exact sub_row hs h1 h2 h3 (sub_lst hW) rb hK
  | tup vs =>
    apply RV.elim ra; intro l xs m h0 h1 h2 h3
    apply int_val (sub_tup hW) rb; intro i t' hW
    obtain ⟨n, r, hn, hr, q⟩ := hW
    obtain ⟨x, e, rx⟩ := h3.get n hr
    rw [h3.size] at hn
    obtain ⟨a1, a2, a3, _⟩ := idx_some hn
    have hs' : xs.size ≤ 16777216 := h2
    exact PyProof.Rows.tail_any (IsT.isTup h1).typeIs F.slot_tuple_getitem.lookup (PyProof.Rows.getItem_tuple (IsT.isTup h1) (by omega) (by omega) (by rw [← idx_eq]; exact hn) (by simpa using e) (hK _ _ _ q rx (Kp.refl s))) (hs _ _)
  | _ => exact False.elim hW
end
theorem isi_list {t : Ty} {l : Addr} {xs : Array Value} {n : Nat} {b : Bool} {K : Value → Shared → Prop} (h1 : IsL s.heap l xs n) (hW : isV t (.lst []) = some b) (j0 : ∀ b', some b' = some b → K (.bool b') s) (j1 : ∀ b', some b' = some b → K (.bool b') { s with toks := s.toks + 1 }) :
    wpAny (model prog w) A (call (.builtin "isinstance") [.ref l, .type (tyName t)]) K E s := by
  have hl := IsL.isList h1
  have jx : ∀ {P : Prop}, (none : Option Bool) = some b → P := fun e => by cases e
  cases t with
  | int => exact IsiPair.isList_int hl (fun _ _ e => e) (j1 _ hW)
  | bool => exact IsiPair.isList_bool hl (fun _ _ e => e) (j1 _ hW)
  | str => exact IsiPair.isList_str hl (fun _ _ e => e) (j1 _ hW)
  | tuple => exact IsiPair.isList_tuple hl (fun _ _ e => e) (j1 _ hW)
  | list => exact IsiPair.isList_list hl (fun _ _ e => e) (j0 _ hW)
  | _ => exact jx hW
theorem prim_isi {t : Ty} {u : V} {a : Value} {b : Bool} {K : Value → Shared → Prop} (ho : HO hsh H Sys s.heap) (hW : isT H t u = some b) (ra : RV (NN H Sys) s.heap u a) (hK : ∀ s', Kp (FZ A Sys) s s' → K (.bool b) s') :
    wpAny (model prog w) A (call (.builtin "isinstance") [a, .type (tyName t)]) K E s := by
  have j0 : ∀ b', some b' = some b → K (.bool b') s := fun b' e => by cases e; exact hK s (Kp.refl s)
  have jx : ∀ {P : Prop}, (none : Option Bool) = some b → P := fun e => by cases e
  have j1 : ∀ b', some b' = some b → K (.bool b') { s with toks := s.toks + 1 } := fun b' e => by cases e; exact hK _ (Kp.tok s _)
  cases u with
  | none =>
    apply RV.elim ra
    cases t with
    | int => exact IsiPair.NoneType_int (j1 _ hW)
    | bool => exact IsiPair.NoneType_bool (j1 _ hW)
    | str => exact IsiPair.NoneType_str (j1 _ hW)
    | tuple => exact IsiPair.NoneType_tuple (j1 _ hW)
    | list => exact IsiPair.NoneType_list (j1 _ hW)
    | _ => exact jx hW
  | bool x =>
    apply RV.elim ra
    cases t with
    | int => exact IsiPair.bool_int (j0 _ hW)
    | bool => exact IsiPair.bool_bool (j0 _ hW)
    | str => exact IsiPair.bool_str (j1 _ hW)
    | tuple => exact IsiPair.bool_tuple (j1 _ hW)
    | list => exact IsiPair.bool_list (j1 _ hW)
    | _ => exact jx hW
  | int i =>
    apply RV.elim ra; intro tt
    cases t with
    | int => exact IsiPair.int_int (j0 _ hW)
    | bool => exact IsiPair.int_bool (j1 _ hW)
    | str => exact IsiPair.int_str (j1 _ hW)
    | tuple => exact IsiPair.int_tuple (j1 _ hW)
    | list => exact IsiPair.int_list (j1 _ hW)
    | _ => exact jx hW
  | str x =>
    apply RV.elim ra; intro tt hx
    cases t with
    | int => exact IsiPair.str_int (j1 _ hW)
    | bool => exact IsiPair.str_bool (j1 _ hW)
    | str => exact IsiPair.str_str (j0 _ hW)
    | tuple => exact IsiPair.str_tuple (j1 _ hW)
    | list => exact IsiPair.str_list (j1 _ hW)
    | _ => exact jx hW
  | tup vs =>
    apply RV.elim ra; intro l xs n h0 h1 h2 h3
    have hl := IsT.isTuple h1
    cases t with
    | int => exact IsiPair.isTuple_int hl (fun _ _ e => e) (j1 _ hW)
    | bool => exact IsiPair.isTuple_bool hl (fun _ _ e => e) (j1 _ hW)
    | str => exact IsiPair.isTuple_str hl (fun _ _ e => e) (j1 _ hW)
    | tuple => exact IsiPair.isTuple_tuple hl (fun _ _ e => e) (j0 _ hW)
    | list => exact IsiPair.isTuple_list hl (fun _ _ e => e) (j1 _ hW)
    | _ => exact jx hW
  | lst vs =>
    apply RV.elim ra; intro l xs n h0 h1 h2 h3
    refine isi_list h1 ?_ j0 j1
    cases t <;> exact hW
  | ref ad =>
    apply RV.elim ra
    have hW : (match H ad with
      | some (.list _) => isV t (.lst [])
      | _ => none) = some b := hW
    split at hW
    · rename_i vs hv
      cases ho _ _ hv with
      | list h1 h2 h3 => exact isi_list h1 hW j0 j1
    · cases hW
  | dct => cases ra
  | inst => exact jx (by cases t <;> exact hW)
  | iref => exact jx (by cases t <;> exact hW)
  | exc => exact jx (by cases t <;> exact hW)

theorem le_lim {n : Nat} (h : n ≤ sizeLine) : (n : Int) < 2 ^ 63 := Int.lt_of_le_of_lt (Int.ofNat_le.mpr h) (by decide)
theorem prim_len {u : V} {a : Value} {n : Nat} {K : Value → Shared → Prop} (ho : HO hsh H Sys s.heap) (hW : sizeV H u = some n) (ra : RV (NN H Sys) s.heap u a) (hK : ∀ t s', Kp (FZ A Sys) s s' → K (.int n t) s') :
    wpAny (model prog w) A (call (.builtin "len") [a]) K E s := by
  have j : ∀ {m : Nat}, some m = some n → ∀ t tk, K (.int m t) { s with toks := tk } := fun e t tk => by cases e; exact hK _ _ (Kp.tok s _)
  cases u with
  | str x =>
    apply RV.elim ra; intro t hx
    exact PyProof.Rows.len_str (Int.not_le.mpr (le_lim hx.1)) (j hW _ _)
  | tup vs =>
    apply RV.elim ra; intro l xs m h0 h1 h2 h3
    exact PyProof.Rows.len_tuple (IsT.isTup h1) (le_lim h2) (j (h3.size ▸ hW) _ _)
  | lst vs =>
    apply RV.elim ra; intro l xs m h0 h1 h2 h3
    exact Calls.call_len_list (IsL.isList h1) (le_lim h2) (j (h3.size ▸ hW) _ _)
  | ref ad =>
    apply RV.elim ra
    have hW : (match H ad with
      | some (.list vs) => some vs.length
      | _ => none) = some n := hW
    split at hW
    · rename_i vs hv
      cases ho _ _ hv with
      | list h1 h2 h3 => exact Calls.call_len_list (IsL.isList h1) (le_lim h2) (j (h3.size ▸ hW) _ _)
    · cases hW
  | _ => cases hW
end

end Mine
end

section
set_option autoImplicit false
namespace Mine
open PySem

theorem starEach_cons {x : Expr} {r : List Expr} {env : Env} (h : noStar x = true) : starEach (x :: r) env = (false, eval x env) :: starEach r env := by
  cases x <;> first | rfl | exact ff h
theorem star_plain (pos : Pos) (env : Env) : ∀ (xs : List Expr), xs.all noStar = true → (backTo pos (starEach xs env)).any (·.1) = false
  | [], _ => rfl
  | x :: r, h => by
    simp only [List.all_cons, Bool.and_eq_true] at h
    rw [starEach_cons h.1]
    have := star_plain pos env r h.2
    simpa [backTo] using this

noncomputable abbrev SEs (G : PG) (d : Nat) (c : Sc) (es : Es) (xs : List Expr) : Prop :=
  xs.all noStar = true ∧ ∀ {A : Around} {env : Env} {lay : Nat → Option Place} {Sys : Addr → Prop} {base : Heap} {st : St} {s : Shared}, Fx G d c A env lay Sys base st s →
    ∀ (pos : Pos) (Q : List V → Prop) (X : String → Prop) (K : List Value → Shared → Prop) (E : Value → Shared → Prop), WEs (G.cx d) es st Q X →
      (∀ vs vals s', Q vs → RVs (NN st.H Sys) s'.heap vs vals → Kp (FZ A Sys) s s' → K vals s') → (∀ e s', Rz G.mg A Sys s X e s' → E e s') →
      wpAny (model G.prog G.w) A (spliced (backTo pos (starEach xs env))) K E s

theorem ses_nil {G : PG} {d : Nat} {c : Sc} : SEs G d c .nil [] :=
  ⟨rfl, fun {A env lay Sys base st s} _ pos Q X K E hW hK _ => wpAny_items_nil (hK [] [] s (by simpa [wes_0, wes_1] using hW) .nil (Kp.refl s))⟩
theorem ses_cons {G : PG} {d : Nat} {c : Sc} {e : E} {es : Es} {x : Expr} {xs : List Expr} (hn : noStar x = true) (he : SE G d c e x) (hes : SEs G d c es xs) : SEs G d c (.cons e es) (x :: xs) := by
  refine ⟨by simp [hn, hes.1], fun {A env lay Sys base st s} F pos Q X K E hW hK hX => ?_⟩
  simp only [wes_0, wes_1] at hW
  refine wpAny_items_cons ((he F).weak _ X _ E hW (fun v a s₁ h₁ r₁ k₁ _ => ?_) hX) (starEach_cons hn)
  exact hes.2 (F.keeps k₁) pos _ X _ E h₁ (fun vs vals s' q r k => hK (v :: vs) (a :: vals) s' q (.cons (r₁.kz k.hw) r) (k₁.trans k)) fun e s' q => hX e s' (Rz.trans k₁ q)

section
variable {G : PG} {d : Nat} {c : Sc} {A : Around} {env : Env} {lay : Nat → Option Place} {Sys : Addr → Prop} {base : Heap} {st : St} {s : Shared}

theorem se_list {es : Es} {xs : List Expr} {pos : Pos} (F : Fx G d c A env lay Sys base st s) (h : SEs G d c es xs) : Snd G.prog G.w G.mg A (NN st.H Sys) Sys s true (eval (.List xs pos) env) (WE (G.cx d) (.list es) st) := by
  intro Q X K E hW hK hX
  simp only [we_0, we_1, we_2, we_3, we_4, we_5, we_6, we_7, we_8, we_9, we_10, we_11, we_12, we_13, we_14, we_15, we_16, we_17, we_18, we_19, we_20, we_21, we_22, we_23, we_24, we_25, we_26, we_27, we_28, we_29, we_30, we_31, we_32, we_33, we_34, we_35, we_36, we_37] at hW
  refine wpAny_List (h.2 F pos _ X _ E hW (fun vs vals s₁ h₁ r₁ k₁ => ?_) hX)
  have F₁ := F.keeps k₁
  have hl := r₁.length
  refine ⟨by rw [← hl]; exact h₁.1, hK _ _ _ h₁.2 (new_lst F₁.sim.objs F₁.sim.live (by simpa using r₁) (by simpa [← hl] using h₁.1)) (k₁.trans (Kp.ofH (HK.push _ _))) fun _ => ?_⟩
  exact (Frsh.mk (s := s₁) (s' := { s₁ with heap := s₁.heap.push { cls := .type "list", data := .seq vals.toArray } }) (fresh_size _) (by simpa using r₁) (HK.push _ _) (IsL.new _ _) (by simpa [← hl] using h₁.1)).before k₁
theorem se_tup {es : Es} {xs : List Expr} {k : Nat} {pos : Pos} (F : Fx G d c A env lay Sys base st s) (h : SEs G d c es xs) : Snd G.prog G.w G.mg A (NN st.H Sys) Sys s false (eval (.Tuple xs k pos) env) (WE (G.cx d) (.tup es) st) := by
  intro Q X K E hW hK hX
  simp only [we_0, we_1, we_2, we_3, we_4, we_5, we_6, we_7, we_8, we_9, we_10, we_11, we_12, we_13, we_14, we_15, we_16, we_17, we_18, we_19, we_20, we_21, we_22, we_23, we_24, we_25, we_26, we_27, we_28, we_29, we_30, we_31, we_32, we_33, we_34, we_35, we_36, we_37] at hW
  refine wpAny_Tuple (h.2 F pos _ X _ E hW (fun vs vals s₁ h₁ r₁ k₁ => ?_) hX)
  have F₁ := F.keeps k₁
  have hl := r₁.length
  exact ⟨by rw [← hl]; exact h₁.1, hK _ _ _ h₁.2 (new_tup F₁.sim.objs F₁.sim.live (by simpa using r₁) (by simpa [← hl] using h₁.1)) (k₁.trans (Kp.ofH (HK.push _ _))) nofun⟩

theorem se_sub {a i : E} {y z : Expr} {pos : Pos} (F : Fx G d c A env lay Sys base st s) (ha : SE G d c a y) (hi : SE G d c i z) (hp : plainX z = true) :
    Snd G.prog G.w G.mg A (NN st.H Sys) Sys s false (eval (.Subscript y z pos) env) (WE (G.cx d) (.sub a i) st) := by
  intro Q X K E hW hK hX
  simp only [we_0, we_1, we_2, we_3, we_4, we_5, we_6, we_7, we_8, we_9, we_10, we_11, we_12, we_13, we_14, we_15, we_16, we_17, we_18, we_19, we_20, we_21, we_22, we_23, we_24, we_25, we_26, we_27, we_28, we_29, we_30, we_31, we_32, we_33, we_34, we_35, we_36, we_37] at hW
  refine PyProof.Rows.Subscript_ ((ha F).weak _ X _ E hW (fun u va s₁ h₁ r₁ k₁ _ => ?_) hX)
  refine (hi (F.keeps k₁)).weak _ X _ E h₁ (fun v vb s₂ h₂ r₂ k₂ _ => ?_) fun e s' q => hX e s' (Rz.trans k₁ q)
  exact prim_sub ((F.keeps k₁).keeps k₂).rm rfl ((F.keeps k₁).keeps k₂).sim.objs hp h₂ (r₁.kz k₂.hw) r₂ fun r val s' q rv k => hK r val s' q rv ((k₁.trans k₂).trans k) nofun

theorem ev_call_b {n : String} {y : Str} {p pos : Pos} {z : Expr} {xs : List Expr} {es : Es} {Q : List V → Prop} {X : String → Prop} {K E : Value → Shared → Prop} (F : Fx G d c A env lay Sys base st s) (hg : isGlob c y n = true) (hn : n ∈ bnames)
    (hv : bval n = .builtin n) (h : SEs G d c es (z :: xs)) (hW : WEs (G.cx d) es st Q X)
    (hK : ∀ vs vals s', Q vs → RVs (NN st.H Sys) s'.heap vs vals → Kp (FZ A Sys) s s' → wpAny (model G.prog G.w) A (call (.builtin n) vals) K E s') (hX : ∀ e s', Rz G.mg A Sys s X e s' → E e s') :
    wpAny (model G.prog G.w) A (eval (.Call (.Name y p) (z :: xs) [] pos) env) K E s := by
  rw [arm_eval_Call_Name']
  refine wpAny_bind (ld_bltn F hg hn ?_)
  rw [hv]
  refine Calls.callWith_builtin (star_plain pos env _ h.1) ?_
  have e : backTo pos (starEach (z :: xs) env) = (false, eval z env) :: backTo pos (starEach xs env) := by
    have := h.1
    simp only [List.all_cons, Bool.and_eq_true] at this
    rw [starEach_cons this.1]; rfl
  have hs := h.2 F pos Q X (fun vals s' => wpAny (model G.prog G.w) A (call (.builtin n) vals) K E s') E hW (fun vs vals s' q r k => hK vs vals s' q r k) hX
  rw [e] at hs ⊢
  exact Calls.evalArgs_plain hs
theorem ev_call_t {n : String} {y : Str} {p pos : Pos} {z : Expr} {xs : List Expr} {es : Es} {Q : List V → Prop} {X : String → Prop} {K E : Value → Shared → Prop} (F : Fx G d c A env lay Sys base st s) (hg : isGlob c y n = true) (hn : n ∈ bnames)
    (hv : bval n = .type n) (h : SEs G d c es (z :: xs)) (hW : WEs (G.cx d) es st Q X)
    (hK : ∀ vs vals s', Q vs → RVs (NN st.H Sys) s'.heap vs vals → Kp (FZ A Sys) s s' → wpAny (model G.prog G.w) A (call (.type n) vals) K E s') (hX : ∀ e s', Rz G.mg A Sys s X e s' → E e s') :
    wpAny (model G.prog G.w) A (eval (.Call (.Name y p) (z :: xs) [] pos) env) K E s := by
  rw [arm_eval_Call_Name']
  refine wpAny_bind (ld_bltn F hg hn ?_)
  rw [hv]
  refine callWith_type (star_plain pos env _ h.1) ?_
  have e : backTo pos (starEach (z :: xs) env) = (false, eval z env) :: backTo pos (starEach xs env) := by
    have := h.1
    simp only [List.all_cons, Bool.and_eq_true] at this
    rw [starEach_cons this.1]; rfl
  have hs := h.2 F pos Q X (fun vals s' => wpAny (model G.prog G.w) A (call (.type n) vals) K E s') E hW (fun vs vals s' q r k => hK vs vals s' q r k) hX
  rw [e] at hs ⊢
  exact Calls.evalArgs_plain hs

theorem se_len {a : E} {y : Str} {z : Expr} {p pos : Pos} (F : Fx G d c A env lay Sys base st s) (hg : isGlob c y "len" = true) (hz : noStar z = true) (ha : SE G d c a z) :
    Snd G.prog G.w G.mg A (NN st.H Sys) Sys s false (eval (.Call (.Name y p) [z] [] pos) env) (WE (G.cx d) (.len a) st) := by
  intro Q X K E hW hK hX
  simp only [we_0, we_1, we_2, we_3, we_4, we_5, we_6, we_7, we_8, we_9, we_10, we_11, we_12, we_13, we_14, we_15, we_16, we_17, we_18, we_19, we_20, we_21, we_22, we_23, we_24, we_25, we_26, we_27, we_28, we_29, we_30, we_31, we_32, we_33, we_34, we_35, we_36, we_37] at hW
  refine ev_call_b (es := .cons a .nil) (X := X) (Q := fun vs => ∃ u, vs = [u] ∧ match sizeV st.H u with | some n => Q (.int n) | none => False) F hg (by decide) rfl (ses_cons hz ha ses_nil) ?_ ?_ hX
  · simp only [wes_0, wes_1, List.cons.injEq, and_true, exists_eq_left']; exact hW
  · rintro vs vals s₁ ⟨u, rfl, h₁⟩ r k
    cases r with
    | cons r1 r2 =>
      cases r2
      split at h₁
      · rename_i n hn
        exact prim_len (F.keeps k).sim.objs hn r1 fun t s' k' => hK _ _ _ h₁ (.int _ _) (k.trans k') nofun
      · exact h₁.elim

theorem se_isi {a : E} {t : Ty} {y u : Str} {z : Expr} {p p' pos : Pos} (F : Fx G d c A env lay Sys base st s) (hg : isGlob c y "isinstance" = true) (hz : noStar z = true) (ha : SE G d c a z) (ht : isGlob c u (tyName t) = true) (htn : tyName t ∈ bnames) (htv : bval (tyName t) = .type (tyName t)) :
    Snd G.prog G.w G.mg A (NN st.H Sys) Sys s false (eval (.Call (.Name y p) [z, .Name u p'] [] pos) env) (WE (G.cx d) (.isinst a t) st) := by
  intro Q X K E hW hK hX
  simp only [we_0, we_1, we_2, we_3, we_4, we_5, we_6, we_7, we_8, we_9, we_10, we_11, we_12, we_13, we_14, we_15, we_16, we_17, we_18, we_19, we_20, we_21, we_22, we_23, we_24, we_25, we_26, we_27, we_28, we_29, we_30, we_31, we_32, we_33, we_34, we_35, we_36, we_37] at hW
  rw [arm_eval_Call_Name']
  refine wpAny_bind (ld_bltn F hg (by decide) ?_)
  show wpAny _ _ (callWith pos (.builtin "isinstance") [] _ _) _ _ _
  refine Calls.callWith_builtin (star_plain pos env [z, .Name u p'] (by rw [List.all_cons, hz]; rfl)) ?_
  have e : backTo pos (starEach [z, .Name u p'] env) = (false, eval z env) :: [(false, eval (.Name u p') env)] := by
    rw [starEach_cons hz]; rfl
  rw [e]
  refine Calls.evalArgs_plain (Calls.spliced_cons ((ha F).weak _ X _ E hW (fun v va s₁ h₁ r₁ k₁ _ => ?_) hX))
  refine Calls.spliced_cons (ld_bltn (F.keeps k₁) ht htn (Calls.spliced_nil ?_))
  rw [htv]
  split at h₁
  · rename_i b hb
    exact prim_isi (F.keeps k₁).sim.objs hb r₁ fun s' k' => hK _ _ _ h₁ (.bool _) (k₁.trans k') nofun
  · exact h₁.elim

/-- a test -/
noncomputable abbrev ST (G : PG) (d : Nat) (c : Sc) (e : E) (x : Expr) : Prop :=
  ∀ {A : Around} {env : Env} {lay : Nat → Option Place} {Sys : Addr → Prop} {base : Heap} {st : St} {s : Shared}, Fx G d c A env lay Sys base st s →
    ∀ (Q : Bool → Prop) (X : String → Prop) (K : Bool → Shared → Prop) (E : Value → Shared → Prop), WE (G.cx d) e st (fun u => match truthV st.H u with
      | some b => Q b
      | none => False) X → (∀ b s', Q b → Kp (FZ A Sys) s s' → K b s') → (∀ e s', Rz G.mg A Sys s X e s' → E e s') → wpAny (model G.prog G.w) A (isTrue x env (eval x env)) K E s

theorem st_of {e : E} {x : Expr} (he : SE G d c e x) (hx : ∀ (env : Env) (w : Sem Value), isTrue x env w = (do let v ← w; standAt x.pos; holding [v] (truthy v))) : ST G d c e x := by
  intro A env lay Sys base st s F Q X K E hW hK hX
  refine wpAny_isTrue_value ((he F).weak _ X _ E hW (fun u va s₁ h₁ r₁ k₁ _ => ?_) hX) (hx _ _)
  split at h₁
  · rename_i b hb
    obtain rfl := truth_bool r₁ hb
    exact wpAny_truthy_bool (hK b s₁ h₁ k₁)
  · exact h₁.elim

theorem WE_cg {C : Cx} {e : E} {st : St} {Q Q' : V → Prop} {X : String → Prop} (hW : WE C e st Q X) (h : ∀ v, Q v = Q' v) : WE C e st Q' X := by
  have : Q = Q' := funext h
  subst this; exact hW

theorem st_not {a : E} {y : Expr} {pos : Pos} (ha : ST G d c a y) : ST G d c (.not a) (.UnaryOp .Not y pos) := by
  intro A env lay Sys base st s F Q X K E hW hK hX
  simp only [we_0, we_1, we_2, we_3, we_4, we_5, we_6, we_7, we_8, we_9, we_10, we_11, we_12, we_13, we_14, we_15, we_16, we_17, we_18, we_19, we_20, we_21, we_22, we_23, we_24, we_25, we_26, we_27, we_28, we_29, we_30, we_31, we_32, we_33, we_34, we_35, we_36, we_37] at hW
  refine wpAny_isTrue_Not (ha F (fun b => Q (!b)) X _ E ?_ (fun b s' q k => hK _ s' q k) hX)
  refine WE_cg hW fun u => ?_
  cases truthV st.H u <;> rfl

theorem se_ite {t a b : E} {y z u : Expr} {pos : Pos} (F : Fx G d c A env lay Sys base st s) (ht : ST G d c t y) (ha : SE G d c a z) (hb : SE G d c b u) :
    Snd G.prog G.w G.mg A (NN st.H Sys) Sys s false (eval (.IfExp y z u pos) env) (WE (G.cx d) (.ite t a b) st) := by
  intro Q X K E hW hK hX
  simp only [we_0, we_1, we_2, we_3, we_4, we_5, we_6, we_7, we_8, we_9, we_10, we_11, we_12, we_13, we_14, we_15, we_16, we_17, we_18, we_19, we_20, we_21, we_22, we_23, we_24, we_25, we_26, we_27, we_28, we_29, we_30, we_31, we_32, we_33, we_34, we_35, we_36, we_37] at hW
  refine wpAny_IfExp (ht F (fun r => if r then WE (G.cx d) a st Q X else WE (G.cx d) b st Q X) X _ E ?_ (fun r s₁ q k => ?_) hX)
  · refine WE_cg hW fun u => ?_
    cases truthV st.H u with
    | none => rfl
    | some r => cases r <;> rfl
  · cases r
    · simp only [Bool.false_eq_true, if_false] at q ⊢
      exact (hb (F.keeps k)).weak _ X _ E q (fun v val s' q' r' k' _ => hK v val s' q' r' (k.trans k') nofun) fun e s' q' => hX e s' (Rz.trans k q')
    · simp only [if_true] at q ⊢
      exact (ha (F.keeps k)).weak _ X _ E q (fun v val s' q' r' k' _ => hK v val s' q' r' (k.trans k') nofun) fun e s' q' => hX e s' (Rz.trans k q')

/-- BoolOps of more than two -/
theorem wpAny_AndN {M : Model} {E : Value → Shared → Prop} {x y : Expr} {r : List Expr} {pos : Pos} {Q : Value → Shared → Prop}
    (h : wpAny M A (eval x env) (fun v s₁ => wpAny M A (truthy v) (fun t s₂ => if t then wpAny M A (eval (.BoolOp .And (y :: r) pos) env) Q E s₂ else Q v s₂) E s₁) E s) :
    wpAny M A (eval (.BoolOp .And (x :: y :: r) pos) env) Q E s := by
  show wpAny M A (do
    let v ← eval x env
    standAt pos
    let t ← holding [v] (truthy v)
    match BoolOp.And, t with
    | .And, false | .Or, true => pure v
    | _, _ => boolOp pos .And (evalEach (y :: r) env)) Q E s
  refine wpAny_bind (wpAny_mono h (fun v s₁ h₁ => wpAny_bind (wpAny_standAt (wpAny_bind (wpAny_holding (wpAny_mono h₁ (fun t s₂ h₂ => ?_) fun _ _ x => x))))) fun _ _ x => x)
  cases t with
  | false => exact wpAny_pure h₂
  | true => exact h₂
theorem wpAny_OrN {M : Model} {E : Value → Shared → Prop} {x y : Expr} {r : List Expr} {pos : Pos} {Q : Value → Shared → Prop}
    (h : wpAny M A (eval x env) (fun v s₁ => wpAny M A (truthy v) (fun t s₂ => if t then Q v s₂ else wpAny M A (eval (.BoolOp .Or (y :: r) pos) env) Q E s₂) E s₁) E s) :
    wpAny M A (eval (.BoolOp .Or (x :: y :: r) pos) env) Q E s := by
  show wpAny M A (do
    let v ← eval x env
    standAt pos
    let t ← holding [v] (truthy v)
    match BoolOp.Or, t with
    | .And, false | .Or, true => pure v
    | _, _ => boolOp pos .Or (evalEach (y :: r) env)) Q E s
  refine wpAny_bind (wpAny_mono h (fun v s₁ h₁ => wpAny_bind (wpAny_standAt (wpAny_bind (wpAny_holding (wpAny_mono h₁ (fun t s₂ h₂ => ?_) fun _ _ x => x))))) fun _ _ x => x)
  cases t with
  | false => exact h₂
  | true => exact wpAny_pure h₂
theorem se_andN {a b : E} {x y : Expr} {r : List Expr} {pos : Pos} (F : Fx G d c A env lay Sys base st s) (ha : SE G d c a x) (hb : SE G d c b (.BoolOp .And (y :: r) pos)) :
    Snd G.prog G.w G.mg A (NN st.H Sys) Sys s false (eval (.BoolOp .And (x :: y :: r) pos) env) (WE (G.cx d) (.and a b) st) := by
  intro Q X K E hW hK hX
  simp only [we_0, we_1, we_2, we_3, we_4, we_5, we_6, we_7, we_8, we_9, we_10, we_11, we_12, we_13, we_14, we_15, we_16, we_17, we_18, we_19, we_20, we_21, we_22, we_23, we_24, we_25, we_26, we_27, we_28, we_29, we_30, we_31, we_32, we_33, we_34, we_35, we_36, we_37] at hW
  refine wpAny_AndN ((ha F).weak _ X _ E hW (fun u va s₁ h₁ r₁ k₁ _ => ?_) hX)
  split at h₁
  · rename_i hb'
    obtain rfl := truth_bool r₁ hb'
    refine wpAny_truthy_bool ?_
    rw [if_pos rfl]
    exact (hb (F.keeps k₁)).weak _ X _ E h₁ (fun v val s' q r k _ => hK v val s' q r (k₁.trans k) nofun) fun e s' q => hX e s' (Rz.trans k₁ q)
  · rename_i hb'
    obtain rfl := truth_bool r₁ hb'
    refine wpAny_truthy_bool ?_
    rw [if_neg (by simp)]
    exact hK _ _ _ h₁ r₁ k₁ nofun
  · exact h₁.elim
theorem se_orN {a b : E} {x y : Expr} {r : List Expr} {pos : Pos} (F : Fx G d c A env lay Sys base st s) (ha : SE G d c a x) (hb : SE G d c b (.BoolOp .Or (y :: r) pos)) :
    Snd G.prog G.w G.mg A (NN st.H Sys) Sys s false (eval (.BoolOp .Or (x :: y :: r) pos) env) (WE (G.cx d) (.or a b) st) := by
  intro Q X K E hW hK hX
  simp only [we_0, we_1, we_2, we_3, we_4, we_5, we_6, we_7, we_8, we_9, we_10, we_11, we_12, we_13, we_14, we_15, we_16, we_17, we_18, we_19, we_20, we_21, we_22, we_23, we_24, we_25, we_26, we_27, we_28, we_29, we_30, we_31, we_32, we_33, we_34, we_35, we_36, we_37] at hW
  refine wpAny_OrN ((ha F).weak _ X _ E hW (fun u va s₁ h₁ r₁ k₁ _ => ?_) hX)
  split at h₁
  · rename_i hb'
    obtain rfl := truth_bool r₁ hb'
    refine wpAny_truthy_bool ?_
    rw [if_pos rfl]
    exact hK _ _ _ h₁ r₁ k₁ nofun
  · rename_i hb'
    obtain rfl := truth_bool r₁ hb'
    refine wpAny_truthy_bool ?_
    rw [if_neg (by simp)]
    exact (hb (F.keeps k₁)).weak _ X _ E h₁ (fun v val s' q r k _ => hK v val s' q r (k₁.trans k) nofun) fun e s' q => hX e s' (Rz.trans k₁ q)
  · exact h₁.elim

theorem st_and {a b : E} {x y : Expr} {r : List Expr} {pos p' : Pos} (ha : ST G d c a x) (hb : ST G d c b (.BoolOp .And (y :: r) p')) : ST G d c (.and a b) (.BoolOp .And (x :: y :: r) pos) := by
  intro A env lay Sys base st s F Q X K E hW hK hX
  simp only [we_0, we_1, we_2, we_3, we_4, we_5, we_6, we_7, we_8, we_9, we_10, we_11, we_12, we_13, we_14, we_15, we_16, we_17, we_18, we_19, we_20, we_21, we_22, we_23, we_24, we_25, we_26, we_27, we_28, we_29, we_30, we_31, we_32, we_33, we_34, we_35, we_36, we_37] at hW
  have hW := WE_cg (Q' := fun u => match truthV st.H u with
      | some r => if r then WE (G.cx d) b st (fun u => match truthV st.H u with
        | some b => Q b
        | none => False) X else Q false
      | none => False) hW fun u => by
    cases e : truthV st.H u with
    | none => rfl
    | some r => cases r <;> simp only [e] <;> rfl
  refine wpAny_isTrue_BoolOp (wpAny_allTrue_And_cons (ha F _ X _ E hW (fun t s₁ q k => ?_) hX))
  cases t
  · simp only [Bool.false_eq_true, if_false] at q ⊢; exact hK false s₁ q k
  · simp only [if_true] at q ⊢
    have := hb (F.keeps k) Q X K E q (fun b s' q' k' => hK b s' q' (k.trans k')) fun e s' q' => hX e s' (Rz.trans k q')
    rw [arm_isTrue_BoolOp] at this
    exact this
theorem st_and2 {a b : E} {x y : Expr} {pos : Pos} (ha : ST G d c a x) (hb : ST G d c b y) : ST G d c (.and a b) (.BoolOp .And [x, y] pos) := by
  intro A env lay Sys base st s F Q X K E hW hK hX
  simp only [we_0, we_1, we_2, we_3, we_4, we_5, we_6, we_7, we_8, we_9, we_10, we_11, we_12, we_13, we_14, we_15, we_16, we_17, we_18, we_19, we_20, we_21, we_22, we_23, we_24, we_25, we_26, we_27, we_28, we_29, we_30, we_31, we_32, we_33, we_34, we_35, we_36, we_37] at hW
  have hW := WE_cg (Q' := fun u => match truthV st.H u with
      | some r => if r then WE (G.cx d) b st (fun u => match truthV st.H u with
        | some b => Q b
        | none => False) X else Q false
      | none => False) hW fun u => by
    cases e : truthV st.H u with
    | none => rfl
    | some r => cases r <;> simp only [e] <;> rfl
  refine wpAny_isTrue_BoolOp (wpAny_allTrue_And_cons (ha F _ X _ E hW (fun t s₁ q k => ?_) hX))
  cases t
  · simp only [Bool.false_eq_true, if_false] at q ⊢; exact hK false s₁ q k
  · simp only [if_true] at q ⊢
    refine wpAny_allTrue_And_cons (hb (F.keeps k) Q X _ E q (fun b s' q' k' => ?_) fun e s' q' => hX e s' (Rz.trans k q'))
    cases b
    · exact hK false s' q' (k.trans k')
    · exact wpAny_allTrue_And_nil (hK true s' q' (k.trans k'))
theorem st_or {a b : E} {x y : Expr} {r : List Expr} {pos p' : Pos} (ha : ST G d c a x) (hb : ST G d c b (.BoolOp .Or (y :: r) p')) : ST G d c (.or a b) (.BoolOp .Or (x :: y :: r) pos) := by
  intro A env lay Sys base st s F Q X K E hW hK hX
  simp only [we_0, we_1, we_2, we_3, we_4, we_5, we_6, we_7, we_8, we_9, we_10, we_11, we_12, we_13, we_14, we_15, we_16, we_17, we_18, we_19, we_20, we_21, we_22, we_23, we_24, we_25, we_26, we_27, we_28, we_29, we_30, we_31, we_32, we_33, we_34, we_35, we_36, we_37] at hW
  have hW := WE_cg (Q' := fun u => match truthV st.H u with
      | some r => if r then Q true else WE (G.cx d) b st (fun u => match truthV st.H u with
        | some b => Q b
        | none => False) X
      | none => False) hW fun u => by
    cases e : truthV st.H u with
    | none => rfl
    | some r => cases r <;> simp only [e] <;> rfl
  refine wpAny_isTrue_BoolOp (wpAny_allTrue_Or_cons (ha F _ X _ E hW (fun t s₁ q k => ?_) hX))
  cases t
  · simp only [Bool.false_eq_true, if_false] at q ⊢
    have := hb (F.keeps k) Q X K E q (fun b s' q' k' => hK b s' q' (k.trans k')) fun e s' q' => hX e s' (Rz.trans k q')
    rw [arm_isTrue_BoolOp] at this
    exact this
  · simp only [if_true] at q ⊢; exact hK true s₁ q k
theorem st_or2 {a b : E} {x y : Expr} {pos : Pos} (ha : ST G d c a x) (hb : ST G d c b y) : ST G d c (.or a b) (.BoolOp .Or [x, y] pos) := by
  intro A env lay Sys base st s F Q X K E hW hK hX
  simp only [we_0, we_1, we_2, we_3, we_4, we_5, we_6, we_7, we_8, we_9, we_10, we_11, we_12, we_13, we_14, we_15, we_16, we_17, we_18, we_19, we_20, we_21, we_22, we_23, we_24, we_25, we_26, we_27, we_28, we_29, we_30, we_31, we_32, we_33, we_34, we_35, we_36, we_37] at hW
  have hW := WE_cg (Q' := fun u => match truthV st.H u with
      | some r => if r then Q true else WE (G.cx d) b st (fun u => match truthV st.H u with
        | some b => Q b
        | none => False) X
      | none => False) hW fun u => by
    cases e : truthV st.H u with
    | none => rfl
    | some r => cases r <;> simp only [e] <;> rfl
  refine wpAny_isTrue_BoolOp (wpAny_allTrue_Or_cons (ha F _ X _ E hW (fun t s₁ q k => ?_) hX))
  cases t
  · simp only [Bool.false_eq_true, if_false] at q ⊢
    refine wpAny_allTrue_Or_cons (hb (F.keeps k) Q X _ E q (fun b s' q' k' => ?_) fun e s' q' => hX e s' (Rz.trans k q'))
    cases b
    · exact wpAny_allTrue_Or_nil (hK false s' q' (k.trans k'))
    · exact hK true s' q' (k.trans k')
  · simp only [if_true] at q ⊢; exact hK true s₁ q k

theorem cmp_eval {l : Expr} {ops : List CmpOp} {rs : List Expr} {pos : Pos} (hm : lastMarks ops rs = false) : eval (.Compare l ops rs pos) env = (do compareChain pos (← eval l env) ops (evalEach rs env)) := by
  show (do compareChain pos (← eval l env) ops (markedEach ops rs (evalEach rs env))) = _
  rw [PyProof.Rows.markedEach_of_false _ _ _ hm]
theorem cmp_test {l : Expr} {ops : List CmpOp} {rs : List Expr} {pos : Pos} {w : Sem Value} (hm : lastMarks ops rs = false) : isTrue (.Compare l ops rs pos) env w = (do testChain pos (← eval l env) ops (evalEach rs env)) := by
  show (do testChain pos (← eval l env) ops (markedEach ops rs (evalEach rs env))) = _
  rw [PyProof.Rows.markedEach_of_false _ _ _ hm]

theorem se_cmp {a : E} {ch : Ch} {l : Expr} {ops : List CmpOp} {rs : List Expr} {pos : Pos} (F : Fx G d c A env lay Sys base st s) (ha : SE G d c a l) (hc : SCh G d c ch ops rs) (hm : lastMarks ops rs = false) :
    Snd G.prog G.w G.mg A (NN st.H Sys) Sys s false (eval (.Compare l ops rs pos) env) (WE (G.cx d) (.cmp a ch) st) := by
  intro Q X K E hW hK hX
  simp only [we_0, we_1, we_2, we_3, we_4, we_5, we_6, we_7, we_8, we_9, we_10, we_11, we_12, we_13, we_14, we_15, we_16, we_17, we_18, we_19, we_20, we_21, we_22, we_23, we_24, we_25, we_26, we_27, we_28, we_29, we_30, we_31, we_32, we_33, we_34, we_35, we_36, we_37] at hW
  rw [cmp_eval hm]
  refine wpAny_bind ((ha F).weak _ X _ E hW (fun u va s₁ h₁ r₁ k₁ _ => ?_) hX)
  exact (hc (F.keeps k₁) u va pos r₁ _ X h₁).1 K E (fun r s' q k => hK _ _ _ q (.bool _) (k₁.trans k) nofun) fun e s' q => hX e s' (Rz.trans k₁ q)
theorem st_cmp {a : E} {ch : Ch} {l : Expr} {ops : List CmpOp} {rs : List Expr} {pos : Pos} (ha : SE G d c a l) (hc : SCh G d c ch ops rs) (hm : lastMarks ops rs = false) : ST G d c (.cmp a ch) (.Compare l ops rs pos) := by
  intro A env lay Sys base st s F Q X K E hW hK hX
  simp only [we_0, we_1, we_2, we_3, we_4, we_5, we_6, we_7, we_8, we_9, we_10, we_11, we_12, we_13, we_14, we_15, we_16, we_17, we_18, we_19, we_20, we_21, we_22, we_23, we_24, we_25, we_26, we_27, we_28, we_29, we_30, we_31, we_32, we_33, we_34, we_35, we_36, we_37] at hW
  rw [cmp_test hm]
  refine wpAny_bind ((ha F).weak _ X _ E hW (fun u va s₁ h₁ r₁ k₁ _ => ?_) hX)
  exact (hc (F.keeps k₁) u va pos r₁ _ X h₁).2 K E (fun r s' q k => hK _ _ q (k₁.trans k)) fun e s' q => hX e s' (Rz.trans k₁ q)
end

end Mine
end

section
set_option autoImplicit false
namespace Mine
open PySem

/-- an iterator that hands out so many things -/
structure WK (prog : Program) (w : World) (A : Around) (I : Addr) (fp wr : List Addr) (nw : Bool) (n : Nat) (P Mi : Nat → Value → Heap → Prop) (Si : Nat → Heap → Prop) : Prop where
  sub : ∀ b ∈ wr, b ∈ fp
  ex : ∀ i h, Si i h → ∀ b ∈ wr, h.get? b ≠ none
  frame : ∀ i h h', Si i h → (∀ b ∈ fp, ∀ o, h.get? b = some o → h'.get? b = some o) → Si i h'
  item : ∀ i (s : Shared) (Q : Option Value → Shared → Prop) (E : Value → Shared → Prop), i < n → Si i s.heap →
    (∀ v h' tk, Mi i v h' → (nw = true → ∀ t, v = .ref t → s.heap.get? t = none) → (∀ b o, b ∉ wr → s.heap.get? b = some o → h'.get? b = some o) → Q (some v) { s with heap := h', toks := tk }) → wpAny (model prog w) A (pyNext (.ref I)) Q E s
  done : ∀ (s : Shared) (Q : Option Value → Shared → Prop) (E : Value → Shared → Prop), Hq A s.heap → (∀ y, A.handled = some (.ref y) → y ∉ wr) → Si n s.heap →
    (∀ h' tk, (∀ b o, b ∉ wr → s.heap.get? b = some o → h'.get? b = some o) → Q none { s with heap := h', toks := tk }) → wpAny (model prog w) A (pyNext (.ref I)) Q E s
  own : ∀ i (s : Shared) (v : Value) (t : Expr) (Q : Unit → Shared → Prop) (E : Value → Shared → Prop), Mi i v s.heap → (nw = true → isTupX t = true) →
    (∀ h', Si (i + 1) h' → P i v h' → (∀ b o, b ∉ wr → s.heap.get? b = some o → h'.get? b = some o) → Q () { s with heap := h' }) → wpAny (model prog w) A (letOwnedTupleGo t (.ref I) v) Q E s
  self : ∀ i (s : Shared) (Q : Value → Shared → Prop) (E : Value → Shared → Prop), Si i s.heap → Q (.ref I) s → wpAny (model prog w) A (pyIter (.ref I)) Q E s

theorem own_plain {prog : Program} {w : World} {A : Around} {I : Addr} {s : Shared} {v : Value} {t : Expr} {T : String} {Q : Unit → Shared → Prop} {E : Value → Shared → Prop} (hI : ∃ o, s.heap.get? I = some o ∧ o.cls = .type T)
    (hT : ["enumerate", "zip", "dict_itemiterator", "dict_reverseitemiterator", "odict_iterator", "itertools.zip_longest", "itertools.pairwise"].contains T = false) (h : Q () s) : wpAny (model prog w) A (letOwnedTupleGo t (.ref I) v) Q E s := by
  obtain ⟨o, ho, hc⟩ := hI
  have key : wpAny (model prog w) A (match (Value.ref I, v) with
    | (.ref r, .ref a) => (do
      let o ← load r
      match o.cls, o.data with
      | .type n, .fields vs =>
        if ["enumerate", "zip", "dict_itemiterator", "dict_reverseitemiterator", "odict_iterator", "itertools.zip_longest", "itertools.pairwise"].contains n && vs[0]? == some (rawInt a) then
          rule "for.unpacks-the-owned-tuple"
          updateField r 0 .none
      | _, _ => pure () : Sem Unit)
    | _ => pure ()) Q E s := by
    cases v with
    | ref a =>
      refine wpAny_bind (wpAny_load ho ?_)
      rw [hc]
      cases o.data <;> first
        | exact wpAny_pure h
        | (dsimp only; rw [if_neg (by rw [hT]; simp)]; exact wpAny_pure h)
    | _ => exact wpAny_pure h
  unfold letOwnedTupleGo
  cases t <;> first
    | exact wpAny_pure h
    | exact key

theorem WK.of {prog : Program} {w : World} {A : Around} {I : Addr} {fp : List Addr} {n : Nat} {P : Nat → Value → Prop} {Si : Nat → Heap → Prop} {T : String} (hI0 : I ∈ fp)
    (frame : ∀ i h h', Si i h → (∀ b ∈ fp, ∀ o, h.get? b = some o → h'.get? b = some o) → Si i h')
    (item : ∀ i (s : Shared) (Q : Option Value → Shared → Prop) (E : Value → Shared → Prop), i < n → Si i s.heap → (∀ v h' tk, P i v → Si (i + 1) h' → Heap.SameBut I s.heap h' → Q (some v) { s with heap := h', toks := tk }) → wpAny (model prog w) A (pyNext (.ref I)) Q E s)
    (done : ∀ (s : Shared) (Q : Option Value → Shared → Prop) (E : Value → Shared → Prop), Hq A s.heap → (∀ y, A.handled = some (.ref y) → y ≠ I) → Si n s.heap → (∀ h', Heap.ExtBut I s.heap h' → Q none { s with heap := h' }) → wpAny (model prog w) A (pyNext (.ref I)) Q E s)
    (self : ∀ i (s : Shared) (Q : Value → Shared → Prop) (E : Value → Shared → Prop), Si i s.heap → Q (.ref I) s → wpAny (model prog w) A (pyIter (.ref I)) Q E s)
    (hT : ["enumerate", "zip", "dict_itemiterator", "dict_reverseitemiterator", "odict_iterator", "itertools.zip_longest", "itertools.pairwise"].contains T = false) (hI : ∀ i h, Si i h → ∃ o, h.get? I = some o ∧ o.cls = .type T) :
    WK prog w A I fp [I] false n (fun i v _ => P i v) (fun i v h => P i v ∧ Si (i + 1) h) Si where
  sub := fun b hb => List.mem_singleton.mp hb ▸ hI0
  ex := fun i h hs b hb e => by
    obtain rfl := List.mem_singleton.mp hb
    obtain ⟨o, ho, _⟩ := hI i h hs
    rw [ho] at e; cases e
  frame := frame
  item := fun i s Q E hi hs hQ => item i s Q E hi hs fun v h' tk hp hs' hk => hQ v h' tk ⟨hp, hs'⟩ nofun fun b o hb e => hk.extBut b o (fun q => hb (q ▸ List.mem_singleton.mpr rfl)) e
  done := fun s Q E h1 h2 hs hQ => done s Q E h1 (fun y hy q => h2 y hy (q ▸ List.mem_singleton.mpr rfl)) hs fun h' hk => hQ h' s.toks fun b o hb e => hk b o (fun q => hb (q ▸ List.mem_singleton.mpr rfl)) e
  own := fun i s v t Q E hs _ hQ => own_plain (hI _ _ hs.2) hT (hQ s.heap hs.2 hs.1 fun _ _ _ e => e)
  self := self
section
variable {prog : Program} {w : World} {A : Around}
theorem wk_list (I ax : Addr) (hne : ax ≠ I) (items : Array Value) : WK prog w A I [I, ax] [I] false items.size (fun i v _ => items[i]? = some v) (fun i v h => items[i]? = some v ∧ (h.IsListIter I ax (i + 1) ∧ h.IsList ax items)) (fun i h => h.IsListIter I ax i ∧ h.IsList ax items) :=
  WK.of (P := fun i v => items[i]? = some v) (Si := fun i h => h.IsListIter I ax i ∧ h.IsList ax items) (T := "list_iterator") (List.mem_cons_self ..) (fun _ _ _ st hk => ⟨st.1.at fun o e => hk I (List.mem_cons_self ..) o e, st.2.at fun o e => hk ax (List.mem_cons_of_mem _ (List.mem_cons_self ..)) o e⟩)
    (fun i s Q E hi st hQ => wpAny_pyNext_list_item st.1 st.2 (x := items[i]) (Array.getElem?_eq_getElem hi) fun h' hit' hs' => hQ _ h' s.toks (Array.getElem?_eq_getElem hi) ⟨hit', st.2.extBut hs'.extBut hne⟩ hs')
    (fun s Q E h1 h2 st hQ => list_end h1 h2 st.1 st.2 (Array.getElem?_eq_none (Nat.le_refl _)) hQ) (fun _ _ _ _ st hQ => wpAny_pyIter_listiter st.1 hQ) (by decide) (fun i h q => ⟨_, q.1.choose_spec.1, q.1.choose_spec.2.1⟩)
theorem wk_tuple (I ax : Addr) (hne : ax ≠ I) (items : Array Value) : WK prog w A I [I, ax] [I] false items.size (fun i v _ => items[i]? = some v) (fun i v h => items[i]? = some v ∧ (h.IsTupleIter I ax (i + 1) ∧ h.IsTuple ax items)) (fun i h => h.IsTupleIter I ax i ∧ h.IsTuple ax items) :=
  WK.of (P := fun i v => items[i]? = some v) (Si := fun i h => h.IsTupleIter I ax i ∧ h.IsTuple ax items) (T := "tuple_iterator") (List.mem_cons_self ..) (fun _ _ _ st hk => ⟨st.1.at fun o e => hk I (List.mem_cons_self ..) o e, st.2.at fun o e => hk ax (List.mem_cons_of_mem _ (List.mem_cons_self ..)) o e⟩)
    (fun i s Q E hi st hQ => wpAny_pyNext_tuple_item st.1 st.2 (x := items[i]) (Array.getElem?_eq_getElem hi) fun h' hit' hs' => hQ _ h' s.toks (Array.getElem?_eq_getElem hi) ⟨hit', st.2.extBut hs'.extBut hne⟩ hs')
    (fun s Q E h1 h2 st hQ => tuple_end h1 h2 st.1 st.2 (Array.getElem?_eq_none (Nat.le_refl _)) hQ) (fun _ _ _ _ st hQ => wpAny_pyIter_tupleiter st.1 hQ) (by decide) (fun i h q => ⟨_, q.1.choose_spec.1, q.1.choose_spec.2.1⟩)
theorem wk_ascii (I : Addr) (x : Str) (t : Tok) : WK prog w A I [I] [I] false x.cps.size (fun i v _ => SignAt x i v) (fun i v h => SignAt x i v ∧ h.IsStrIter I "str_ascii_iterator" x t (i + 1)) (fun i h => h.IsStrIter I "str_ascii_iterator" x t i) :=
  WK.of (P := SignAt x) (Si := fun i h => h.IsStrIter I "str_ascii_iterator" x t i) (T := "str_ascii_iterator") (List.mem_cons_self ..) (fun _ _ _ st hk => let ⟨o, ho, r⟩ := st; ⟨o, hk I (List.mem_cons_self ..) o ho, r⟩)
    (fun i s Q E hi st hQ => wpAny_pyNext_ascii_item st (c := x.cps[i]) (Array.getElem?_eq_getElem hi) fun h' hit' hs' => hQ _ h' (s.toks + 1) ⟨_, _, Array.getElem?_eq_getElem hi, rfl⟩ hit' hs')
    (fun s Q E h1 h2 st hQ => ascii_end h1 h2 st (Array.getElem?_eq_none (Nat.le_refl _)) hQ) (fun _ _ _ _ st hQ => wpAny_pyIter_striter_ascii st hQ) (by decide) (fun i h q => ⟨_, q.choose_spec.1, q.choose_spec.2.1⟩)
theorem wk_wide (I : Addr) (x : Str) (t : Tok) : WK prog w A I [I] [I] false x.cps.size (fun i v _ => SignAt x i v) (fun i v h => SignAt x i v ∧ h.IsStrIter I "str_iterator" x t (i + 1)) (fun i h => h.IsStrIter I "str_iterator" x t i) :=
  WK.of (P := SignAt x) (Si := fun i h => h.IsStrIter I "str_iterator" x t i) (T := "str_iterator") (List.mem_cons_self ..) (fun _ _ _ st hk => let ⟨o, ho, r⟩ := st; ⟨o, hk I (List.mem_cons_self ..) o ho, r⟩)
    (fun i s Q E hi st hQ => wpAny_pyNext_wide_item st (c := x.cps[i]) (Array.getElem?_eq_getElem hi) fun h' hit' hs' => hQ _ h' (s.toks + 1) ⟨_, _, Array.getElem?_eq_getElem hi, rfl⟩ hit' hs')
    (fun s Q E h1 h2 st hQ => wide_end h1 h2 st (Array.getElem?_eq_none (Nat.le_refl _)) hQ) (fun _ _ _ _ st hQ => wpAny_pyIter_striter_wide st hQ) (by decide) (fun i h q => ⟨_, q.choose_spec.1, q.choose_spec.2.1⟩)
theorem wk_range (I : Addr) (a c : Int) (n : Nat) : WK prog w A I [I] [I] false n (fun i v _ => ∃ t, v = .int (a + i * c) t) (fun i v h => (∃ t, v = .int (a + i * c) t) ∧ IsRangeIter h I (a + ((i + 1 : Nat) : Int) * c) ((n : Int) - ((i + 1 : Nat) : Int)) c) (fun i h => IsRangeIter h I (a + (i : Nat) * c) ((n : Int) - (i : Nat)) c) :=
  WK.of (P := fun i v => ∃ t, v = .int (a + i * c) t) (Si := fun i h => IsRangeIter h I (a + (i : Nat) * c) ((n : Int) - (i : Nat)) c) (T := "range_iterator") (List.mem_cons_self ..) (fun _ _ _ st hk => hk I (List.mem_cons_self ..) _ st)
    (fun i s Q E hi st hQ => wpAny_pyNext_range_item st (by omega) fun h' hit' hs' => hQ _ h' _ ⟨_, rfl⟩ (by
      have e1 : a + ((i + 1 : Nat) : Int) * c = a + (i : Int) * c + c := by push_cast; rw [Int.add_mul, Int.one_mul, Int.add_assoc]
      have e2 : (n : Int) - ((i + 1 : Nat) : Int) = (n : Int) - (i : Int) - 1 := by push_cast; omega
      rw [e1, e2]; exact hit') hs')
    (fun s Q E h1 _ st hQ => range_end h1 st (by omega) hQ) (fun _ _ _ _ st hQ => wpAny_pyIter_rangeiter st hQ) (by decide) (fun i h q => ⟨_, q, rfl⟩)
end

/-- what the walk over an iterable gives -/
structure ItOk (G : PG) (A : Around) (H : AH) (Sys : Addr → Prop) (s s' : Shared) (vs : List V) (ds : List Nat) (I : Addr) (nw : Bool) : Prop where
  ex : ∃ (fp wr : List Addr) (P Mi : Nat → Value → Heap → Prop) (Si : Nat → Heap → Prop), WK G.prog G.w A I fp wr nw vs.length P Mi Si ∧ Si 0 s'.heap ∧ (∀ b ∈ wr, s.heap.get? b = none) ∧ (∀ b ∈ fp, ∃ o, s'.heap.get? b = some o) ∧
    (∀ b ∈ fp, b ∉ wr → (¬ NN H Sys b ∨ (b ∈ ds ∧ H b ≠ none))) ∧
    (∀ i v val h, vs[i]? = some v → P i val h → match nw with
      | false => RV (NN H (fun a => Sys a ∨ a ∈ wr)) s'.heap v val
      | true => ∃ t xs n ws, v = .tup ws ∧ val = .ref t ∧ IsT h t xs n ∧ xs.size ≤ sizeLine ∧ RVs (NN H (fun a => Sys a ∨ a ∈ wr)) s'.heap ws xs.toList)

noncomputable abbrev SI (G : PG) (d : Nat) (c : Sc) (it : It) (x : Expr) : Prop :=
  ∀ {A : Around} {env : Env} {lay : Nat → Option Place} {Sys : Addr → Prop} {base : Heap} {st : St} {s : Shared}, Fx G d c A env lay Sys base st s →
    ∀ (Q : List V → List Nat → Prop) (X : String → Prop) (K : Value → Shared → Prop) (E : Value → Shared → Prop), WI (G.cx d) it st Q X →
      (∀ vs ds I s', Q vs ds → Kp (FZ A Sys) s s' → ItOk G A st.H Sys s s' vs ds I (isEZ it) → K (.ref I) s') → (∀ e s', Rz G.mg A Sys s X e s' → E e s') →
      wpAny (model G.prog G.w) A (eval x env) (fun v s₁ => wpAny (model G.prog G.w) A (pyIter v) K E s₁) E s

section
variable {G : PG} {d : Nat} {c : Sc} {A : Around} {env : Env} {lay : Nat → Option Place} {Sys : Addr → Prop} {base : Heap} {st : St} {s : Shared} {H : AH}

theorem NN.more {wr : List Addr} {b : Addr} (h : NN H (fun a => Sys a ∨ a ∈ wr) b) : NN H Sys b ∨ b ∈ wr := by
  rcases h with h | h | h
  · exact .inl (.inl h)
  · exact .inl (.inr h)
  · exact .inr h

/-- an item of a row that stands, behind a step of the walk -/
theorem item_rv {Sys : Addr → Prop} {I : Addr} {h₀ h₁ : Heap} {vs : List V} {xs : List Value} (r : RVs (NN H Sys) h₀ vs xs) (hI : h₀.get? I = none) (k : HK h₀ h₁) {i : Nat} {v : V} {val : Value} (hv : vs[i]? = some v) (hx : xs[i]? = some val) : RV (NN H (fun a => Sys a ∨ a ∈ [I])) h₁ v val := by
  obtain ⟨x, e, rx⟩ := r.get i hv
  rw [hx] at e; cases e
  refine rx.gen (fun b q => ?_) fun b o nb e => k b o e
  rcases NN.more q with q | q
  · exact .inl q
  · rw [List.mem_singleton.mp q]; exact .inr hI

theorem it_list {a : Addr} {xs : Array Value} {n : Nat} {vs : List V} {ds : List Nat} {K E : Value → Shared → Prop} (F : Fx G d c A env lay Sys base st s) (hl : IsL s.heap a xs n) (r : RVs (NN st.H Sys) s.heap vs xs.toList)
    (hd : ¬ NN st.H Sys a ∨ (a ∈ ds ∧ st.H a ≠ none)) (hK : ∀ I s', Kp (FZ A Sys) s s' → ItOk G A st.H Sys s s' vs ds I false → K (.ref I) s') : wpAny (model G.prog G.w) A (pyIter (.ref a)) K E s := by
  refine wpAny_pyIter_list hl.isList (hK _ _ (Kp.ofH (HK.push _ _)) ⟨?_⟩)
  have hne : a ≠ s.heap.objs.size := Nat.ne_of_lt (Heap.lt_size hl)
  have hsz := r.size
  refine ⟨[s.heap.objs.size, a], [s.heap.objs.size], _, _, _, hsz ▸ wk_list s.heap.objs.size a hne xs, ?_, ?_, ?_, ?_, ?_⟩
  · exact ⟨⟨_, Heap.get?_push_size _ rfl, rfl, rfl⟩, ⟨_, Heap.get?_push_of_some _ hl, rfl, _, rfl⟩⟩
  · intro b hb; rw [List.mem_singleton.mp hb]; exact fresh_size _
  · intro b hb
    simp only [List.mem_cons, List.not_mem_nil, or_false] at hb
    rcases hb with rfl | rfl
    · exact ⟨_, Heap.get?_push_size _ rfl⟩
    · exact ⟨_, Heap.get?_push_of_some _ hl⟩
  · intro b hb hw
    simp only [List.mem_cons, List.not_mem_nil, or_false] at hb hw
    rcases hb with rfl | rfl
    · exact absurd rfl hw
    · exact hd
  · intro i v val h hv hp
    exact item_rv r (fresh_size _) (HK.push _ _) hv (by simpa using hp)

theorem it_tup {a : Addr} {xs : Array Value} {n : Nat} {vs : List V} {ds : List Nat} {K E : Value → Shared → Prop} (F : Fx G d c A env lay Sys base st s) (hl : IsT s.heap a xs n) (r : RVs (NN st.H Sys) s.heap vs xs.toList)
    (hd : ¬ NN st.H Sys a ∨ (a ∈ ds ∧ st.H a ≠ none)) (hK : ∀ I s', Kp (FZ A Sys) s s' → ItOk G A st.H Sys s s' vs ds I false → K (.ref I) s') : wpAny (model G.prog G.w) A (pyIter (.ref a)) K E s := by
  refine wpAny_pyIter_tuple (IsT.isTuple hl) (hK _ _ (Kp.ofH (HK.push _ _)) ⟨?_⟩)
  have hne : a ≠ s.heap.objs.size := Nat.ne_of_lt (Heap.lt_size hl)
  have hsz := r.size
  refine ⟨[s.heap.objs.size, a], [s.heap.objs.size], _, _, _, hsz ▸ wk_tuple s.heap.objs.size a hne xs, ?_, ?_, ?_, ?_, ?_⟩
  · exact ⟨⟨_, Heap.get?_push_size _ rfl, rfl, rfl⟩, ⟨_, Heap.get?_push_of_some _ hl, rfl, _, rfl⟩⟩
  · intro b hb; rw [List.mem_singleton.mp hb]; exact fresh_size _
  · intro b hb
    simp only [List.mem_cons, List.not_mem_nil, or_false] at hb
    rcases hb with rfl | rfl
    · exact ⟨_, Heap.get?_push_size _ rfl⟩
    · exact ⟨_, Heap.get?_push_of_some _ hl⟩
  · intro b hb hw
    simp only [List.mem_cons, List.not_mem_nil, or_false] at hb hw
    rcases hb with rfl | rfl
    · exact absurd rfl hw
    · exact hd
  · intro i v val h hv hp
    exact item_rv r (fresh_size _) (HK.push _ _) hv (by simpa using hp)

theorem it_str {x : Str} {t : Tok} {ds : List Nat} {K E : Value → Shared → Prop} (F : Fx G d c A env lay Sys base st s) (hx : SOk x)
    (hK : ∀ I s', Kp (FZ A Sys) s s' → ItOk G A st.H Sys s s' (signsOf x) ds I false → K (.ref I) s') : wpAny (model G.prog G.w) A (pyIter (.str x t)) K E s := by
  have hsz : (signsOf x).length = x.cps.size := by simp [signsOf]
  have sign : ∀ (Sy : Addr → Prop) (h : Heap) (i : Nat) (v : V) (val : Value), (signsOf x)[i]? = some v → SignAt x i val → RV (NN st.H Sy) h v val := by
    rintro Sy h i v val hv ⟨c, u, hc, rfl⟩
    have hc' : x.cps.toList[i]? = some c := by rw [Array.getElem?_toList]; exact hc
    simp only [signsOf, List.getElem?_map, hc', Option.map_some, Option.some.injEq] at hv
    subst hv
    exact .str _ _ (hx.one (List.mem_of_getElem? hc'))
  cases ha : x.cps.all (· < 128)
  · refine wpAny_pyIter_wide ha (hK _ _ (Kp.ofH (HK.push _ _)) ⟨?_⟩)
    refine ⟨[s.heap.objs.size], [s.heap.objs.size], _, _, _, hsz ▸ wk_wide s.heap.objs.size x t, ⟨_, Heap.get?_push_size _ rfl, rfl, rfl⟩, ?_, ?_, ?_, ?_⟩
    · intro b hb; rw [List.mem_singleton.mp hb]; exact fresh_size _
    · intro b hb; rw [List.mem_singleton.mp hb]; exact ⟨_, Heap.get?_push_size _ rfl⟩
    · intro b hb hw; exact absurd hb hw
    · intro i v val h hv hp; exact sign _ _ _ _ _ hv hp
  · refine wpAny_pyIter_ascii ha (hK _ _ (Kp.ofH (HK.push _ _)) ⟨?_⟩)
    refine ⟨[s.heap.objs.size], [s.heap.objs.size], _, _, _, hsz ▸ wk_ascii s.heap.objs.size x t, ⟨_, Heap.get?_push_size _ rfl, rfl, rfl⟩, ?_, ?_, ?_, ?_⟩
    · intro b hb; rw [List.mem_singleton.mp hb]; exact fresh_size _
    · intro b hb; rw [List.mem_singleton.mp hb]; exact ⟨_, Heap.get?_push_size _ rfl⟩
    · intro b hb hw; exact absurd hb hw
    · intro i v val h hv hp; exact sign _ _ _ _ _ hv hp

theorem ItOk.before {s₀ s₁ s₂ : Shared} {vs : List V} {ds : List Nat} {I : Addr} {nw : Bool} (k : Kp (FZ A Sys) s₀ s₁) (x : ItOk G A H Sys s₁ s₂ vs ds I nw) : ItOk G A H Sys s₀ s₂ vs ds I nw := by
  obtain ⟨fp, wr, P, Mi, Si, h1, h2, h3, h4, h5, h6⟩ := x.ex
  exact ⟨fp, wr, P, Mi, Si, h1, h2, fun b hb => fresh_keeps k (h3 b hb), h4, h5, h6⟩

theorem si_seq {e : E} {x : Expr} (he : SE G d c e x) : SI G d c (.seq e) x := by
  intro A env lay Sys base st s F Q X K E hW hK hX
  simp only [wi_0, wi_1, wi_2, wi_3, wi_4, wi_5, wi_6, wi_7, rg1, rg2, rg3] at hW
  refine (he F).weak _ X _ E hW (fun v a s₁ h₁ r₁ k₁ _ => ?_) hX
  have F₁ := F.keeps k₁
  split at h₁
  · rename_i vs hv
    have fin : ∀ I s', Kp (FZ A Sys) s₁ s' → ItOk G A st.H Sys s₁ s' vs (depsV v) I false → K (.ref I) s' := fun I s' k i => hK vs _ I s' h₁ (k₁.trans k) (i.before k₁)
    cases r₁ with
    | lst b1 b2 b3 b4 => simp [iv_none, iv_bool, iv_int, iv_str, iv_tup, iv_lst, iv_ref, iv_inst, iv_iref, iv_exc, iv_dct] at hv; subst hv; exact it_list F₁ b2 b4 (.inl b1) fin
    | tup b1 b2 b3 b4 => simp [iv_none, iv_bool, iv_int, iv_str, iv_tup, iv_lst, iv_ref, iv_inst, iv_iref, iv_exc, iv_dct] at hv; subst hv; exact it_tup F₁ b2 b4 (.inl b1) fin
    | str u t o => simp [iv_none, iv_bool, iv_int, iv_str, iv_tup, iv_lst, iv_ref, iv_inst, iv_iref, iv_exc, iv_dct] at hv; subst hv; exact it_str F₁ o fin
    | ref ad =>
      simp only [iv_none, iv_bool, iv_int, iv_str, iv_tup, iv_lst, iv_ref, iv_inst, iv_iref, iv_exc, iv_dct] at hv
      split at hv
      · rename_i ws hw
        cases hv
        cases F₁.sim.objs _ _ hw with
        | list b1 b2 b3 => exact it_list F₁ b1 b3 (.inr ⟨by simp [dv_none, dv_bool, dv_int, dv_str, dv_tup, dv_lst, dv_ref, dv_inst, dv_iref, dv_exc, dv_dct], by rw [hw]; simp⟩) fin
      · cases hv
    | _ => simp [iv_none, iv_bool, iv_int, iv_str, iv_tup, iv_lst, iv_ref, iv_inst, iv_iref, iv_exc, iv_dct] at hv
  · exact h₁.elim
end

end Mine
end

section
set_option autoImplicit false
namespace Mine
open PySem

section
variable {G : PG} {d : Nat} {c : Sc} {A : Around} {env : Env} {lay : Nat → Option Place} {Sys : Addr → Prop} {base : Heap} {st : St} {s : Shared} {H : AH}

theorem RVs.reverse {N : Addr → Prop} {h : Heap} : ∀ {vs : List V} {xs : List Value}, RVs N h vs xs → RVs N h vs.reverse xs.reverse
  | _, _, .nil => .nil
  | _, _, .cons a b => by simpa using b.reverse.append (.cons a .nil)

theorem rng1_inv {vs : List V} {P : Int → Prop} (h : rng1 vs P) : ∃ i, vs = [.int i] ∧ smallI i ∧ P i := by
  rcases vs with _ | ⟨a, _ | ⟨b, r⟩⟩
  · exact False.elim h
  · obtain ⟨i, rfl, h⟩ := intP_inv h
    exact ⟨_, rfl, h⟩
  · exact False.elim h
theorem upL_length (a b : Int) : (upL a b).length = (b - a).toNat := by simp [upL]
theorem upL_get {a b : Int} {i : Nat} {v : V} (h : (upL a b)[i]? = some v) : v = .int (a + i) := by
  simp only [upL, List.getElem?_map, Option.map_eq_some_iff] at h
  obtain ⟨k, hk, rfl⟩ := h
  have := List.getElem?_eq_some_iff.mp hk
  obtain ⟨h1, h2⟩ := this
  simp at h2; rw [h2]
theorem it_range {r : Addr} {a b e : Int} {t u v : Tok} {n : Nat} {vs : List V} {K E : Value → Shared → Prop} (F : Fx G d c A env lay Sys base st s) (hr : IsRange s.heap r a b e t u v) (hs : Builtin.Range.small a b e = true)
    (hn : Builtin.Range.rangeSize a b e = (n : Int)) (hvn : vs.length = n) (hv : ∀ (i : Nat) (v : V), vs[i]? = some v → v = V.int (a + i * e))
    (hK : ∀ I s', Kp (FZ A Sys) s s' → ItOk G A st.H Sys s s' vs [] I false → K (.ref I) s') : wpAny (model G.prog G.w) A (pyIter (.ref r)) K E s := by
  refine wpAny_pyIter_range hr hs (hK _ _ (Kp.ofH (HK.push _ _)) ⟨?_⟩)
  refine ⟨[s.heap.objs.size], [s.heap.objs.size], _, _, _, hvn ▸ wk_range s.heap.objs.size a e n, ?_, ?_, ?_, ?_, ?_⟩
  · show Heap.get? (Heap.push _ _) _ = _
    rw [hn]
    have := Heap.get?_push_size (o := { cls := .type "range_iterator", data := .fields #[rawInt a, rawInt (n : Int), rawInt e] }) s.heap rfl
    simpa [hvn] using this
  · intro b hb; rw [List.mem_singleton.mp hb]; exact fresh_size _
  · intro b hb; rw [List.mem_singleton.mp hb]; exact ⟨_, Heap.get?_push_size _ rfl⟩
  · intro b hb hw; exact absurd hb hw
  · rintro i v val h hv' ⟨tk, rfl⟩
    rw [hv i v hv']; exact .int _ _

theorem si_range1 {e : E} {y : Str} {p pos : Pos} {z : Expr} (hg : isGlob c y "range" = true) (hz : noStar z = true) (he : SE G d c e z) : SI G d c (.range1 e) (.Call (.Name y p) [z] [] pos) := by
  intro A env lay Sys base st s F Q X K E hW hK hX
  refine (ev_call_t (es := .cons e .nil) (X := X) (Q := fun vs => rng1 vs fun i => Q (upL 0 i) []) F hg (by decide) rfl (ses_cons hz he ses_nil) hW ?_ hX)
  · intro vs vals s₁ q r k
    obtain ⟨i, rfl, ⟨h1, h2⟩, h₁⟩ := rng1_inv q
    cases r with
    | cons r1 r2 =>
      cases r2; cases r1; rename_i tt
      refine call_range_1 ?_
      have k' := Kp.of (Z := FZ A Sys) (s := s₁) (t := s₁.toks + 1 + 1) (HK.push s₁.heap { cls := .type "range", data := .fields #[.int 0 s₁.toks, .int i tt, .int 1 (s₁.toks + 1)] })
      have F₁ := (F.keeps k).keeps k'
      refine it_range (n := i.toNat) F₁ (IsRange.new ..) (small_one (by decide) (by decide) h1 h2) ?_ (by rw [upL_length]; simp) (fun j v hv => by rw [upL_get hv]; simp) fun I s' k'' it => hK _ _ I s' h₁ ((k.trans k').trans k'') (it.before (k.trans k'))
      rw [rangeSize_one]; split <;> omega

end

end Mine
end

section
set_option autoImplicit false
namespace Mine
open PySem
theorem ri_next : Slot "list_reverseiterator" "__next__" "list_reverseiterator.__next__" :=
  .of (owner := "list_reverseiterator") (n := "__next__") (by rw [typeLookup_type, builtinLookup_eq_fast]; kernel_rfl) (by decide +kernel) (by decide +kernel) (by decide +kernel) (.inl (by decide +kernel)) (by rw [isSubtype_type]; kernel_rfl)
theorem ri_next_entry : entryFor table "list_reverseiterator.__next__" = some Builtin.«list_reverseiterator.__next__» := entryFor_of_tree (by kernel_rfl)
noncomputable abbrev RI (l : Addr) (i : Int) : Obj := { cls := .type "list_reverseiterator", dict := none, data := .fields #[.ref l, rawInt i], slots := #[] }
theorem ri_args (a : Value) : argsOk "list_reverseiterator.__next__" ⟨[a], []⟩ := by
  unfold argsOk
  kernel_rfl
theorem ri_item (it l : Addr) (i : Nat) (items : Array Value) (n : Nat) (x : Value) (hx : items[i]? = some x) :
    Meets (Builtin.«list_reverseiterator.__next__» ⟨[.ref it], []⟩) (fun _ R s => s.heap.get? it = some { cls := .type "list_reverseiterator", dict := none, data := .fields #[.ref l, rawInt (i : Int)], slots := #[] } ∧ s.heap.get? l = some { cls := .type "list", dict := none, data := .seq items n, slots := #[] } ∧
      R (.ok (.ret x)) { s with heap := s.heap.update it (Obj.mapFields (·.setIfInBounds 1 (rawInt ((i : Int) - 1)))) }) :=
  .of_wp fun prog w A R s h => by
    obtain ⟨hp, g, d, tk, os⟩ := s
    obtain ⟨hi, hl, h⟩ := h
    wp_walk
    simp only [Int.toNat_natCast, hx]
    wp_walk
    exact ⟨_, rfl, h⟩
theorem ri_end {prog : Program} {w : World} {A : Around} {E : Value → Shared → Prop} {s : Shared} {it l : Addr} {Q : Option Value → Shared → Prop} (hh : A.handled = none) (hi : s.heap.get? it = some (RI l (-1)))
    (hQ : ∀ h', (∀ b o, s.heap.get? b = some o → h'.get? b = some o) → Q none { s with heap := h' }) : wpAny (model prog w) A (pyNext (.ref it)) Q E s := by
  obtain ⟨hp, g, d, tk, os⟩ := s
  have hh' : A.in1.handled = none := hh
  unfold pyNext
  refine wpAny_bind (wpAny_attempt (wpAny_callSpecial?_slot (name := Str.ofString "__next__") ⟨_, hi, rfl⟩ ri_next (wpAny_call_entry ri_next ⟨_, hi, rfl⟩ ri_next_entry ?_ (ri_args _))))
  wp_walk
  unfold raiseNew
  wp_walk
  refine wpAny_of_eq isSubtype_stop ?_
  exact wpAny_pure (hQ _ fun b o e => Heap.get?_push_of_some _ (Heap.get?_push_of_some _ e))
theorem ri_iter : Slot "list_reverseiterator" "__iter__" "list_reverseiterator.__iter__" :=
  .of (owner := "list_reverseiterator") (n := "__iter__") (by rw [typeLookup_type, builtinLookup_eq_fast]; kernel_rfl) (by decide +kernel) (by decide +kernel) (by decide +kernel) (.inl (by decide +kernel)) (by rw [isSubtype_type]; kernel_rfl)
theorem ri_iter_args (a : Value) : argsOk "list_reverseiterator.__iter__" ⟨[a], []⟩ := by
  unfold argsOk
  kernel_rfl
theorem ri_iter_entry : entryFor table "list_reverseiterator.__iter__" = some Builtin.«dict_keyiterator.__iter__» :=
  entryFor_alias (id' := "dict_keyiterator.__iter__") (by kernel_rfl) (by first | rfl | decide +kernel | (unfold String.splitOn; simp +decide [String.splitOnAux])) (by decide +kernel) (by kernel_rfl)
theorem ri_self {prog : Program} {w : World} {A : Around} {E : Value → Shared → Prop} {s : Shared} {it l : Addr} {i : Int} {Q : Value → Shared → Prop} (hi : s.heap.get? it = some (RI l i)) (hQ : Q (.ref it) s) : wpAny (model prog w) A (pyIter (.ref it)) Q E s :=
  wpAny_pyIter_slot ⟨_, hi, rfl⟩ ri_iter (wpAny_call_entry ri_iter ⟨_, hi, rfl⟩ ri_iter_entry (wpAny_pure ⟨_, rfl, _, _, ⟨_, hi, rfl⟩, ri_next.lookup, hQ⟩) (ri_iter_args _))
theorem ri_one {prog : Program} {w : World} {A : Around} {E : Value → Shared → Prop} {s : Shared} {it l : Addr} {i n : Nat} {items : Array Value} {x : Value} {Q : Option Value → Shared → Prop} (hi : s.heap.get? it = some (RI l i)) (hl : s.heap.get? l = some { cls := .type "list", data := .seq items n }) (hx : items[i]? = some x)
    (hQ : Q (some x) { s with heap := s.heap.update it (Obj.mapFields (·.setIfInBounds 1 (rawInt ((i : Int) - 1)))) }) : wpAny (model prog w) A (pyNext (.ref it)) Q E s := by
  unfold pyNext
  refine wpAny_bind (wpAny_attempt (wpAny_callSpecial?_slot (name := Str.ofString "__next__") ⟨_, hi, rfl⟩ ri_next (call_meets ri_next ⟨_, hi, rfl⟩ ri_next_entry (ri_args _) (ri_item it l i items n x hx) ⟨hi, hl, ?_⟩)))
  exact wpAny_pure hQ
theorem ri_made : Bind.madeBy (.type "reversed") = pure (some "reversed.__new__") := by kernel_rfl
theorem ri_sub : isSubtype (.type "list_reverseiterator") (.type "reversed") = pure false := by rw [isSubtype_type]; kernel_rfl
theorem ri_mro : mroOf (.type "reversed") = pure [.type "reversed", .type "object"] := by rw [mroOf_type]; kernel_rfl
theorem ri_new_entry : entryFor table "reversed.__new__" = some Builtin.«reversed.__new__» := entryFor_of_tree (by kernel_rfl)
set_option maxRecDepth 100000 in
theorem ri_call {prog : Program} {w : World} {A : Around} {E : Value → Shared → Prop} {s : Shared} {l : Addr} {Q : Value → Shared → Prop}
    (hQ : codeAny (model prog w) A.in1 (.call (.builtin "reversed.__new__") ⟨[.type "reversed", .ref l], []⟩) (wants (fun v s' => s'.TypeIs v "list_reverseiterator" ∧ Q v s') E) s) : wpAny (model prog w) A (call (.type "reversed") [.ref l]) Q E s := by
  have h1 := ri_made
  have h2 := ri_sub
  have h3 := ri_mro
  have h4 : checkTypeCall "reversed" ⟨[.ref l], []⟩ = pure () := by kernel_rfl
  have h5 : (Value.type "reversed" == Value.type "type") = false := by decide +kernel
  have h6 : ((Manifest.find? "reversed").bind (·.mro.findSome? fun t => (Manifest.find? t).bind fun b => if b.noNew then some true else if b.attrs.any (·.1 == "__new__") then some false else none)).getD false = false := by decide +kernel
  refine wpAny_call (codeAny_of_tree (wpAny_pure ⟨Code.quiet_builtin _ (by decide +kernel), codeAny_builtin F.entry_type_call ?_⟩))
  rw [Around.under_plain (weight_type_call_type _ _ _) rfl]
  repeat (any_goals (first | assumption | wp_step))
  refine codeAny_mono hQ fun r s₁ hr => ?_
  cases r with
  | error e => exact hr
  | ok fl =>
    cases fl with
    | ret v =>
      obtain ⟨hT, hq⟩ := hr
      repeat (any_goals (first | assumption | wp_step))
    | _ => exact hr.elim
theorem ri_new (l : Addr) (items : Array Value) (n : Nat) :
    Meets (Builtin.«reversed.__new__» ⟨[.type "reversed", .ref l], []⟩) (fun _ R s => s.heap.get? l = some { cls := .type "list", dict := none, data := .seq items n, slots := #[] } ∧
      R (.ok (.ret (Value.ref s.heap.objs.size))) { s with heap := s.heap.push (RI l (((items.size : Nat) : Int) - 1)) }) :=
  .of_wp fun prog w A R s h => by
    obtain ⟨hp, g, d, tk, os⟩ := s
    obtain ⟨hl, h⟩ := h
    wp_walk
    refine wpAny_of_eq (show isSubtype (.type "reversed") (.type "reversed") = pure true from by rw [isSubtype_type]; kernel_rfl) ?_
    wp_walk
    refine wpAny_of_eq F.slot_list_reversed.lookup ?_
    wp_walk
    refine wpAny_of_eq (F.slot_list_reversed.bind _) ?_
    wp_walk
    refine codeAny_call_builtin F.slot_list_reversed.plain F.entry_list_reversed (F.slot_list_reversed.check _ _ _ _ _ _ _ _ ⟨_, hl, rfl⟩ (F.args_list_reversed_1 _) (AutoListH.list___reversed___list_0 l items n prog w A.in1 (fun r s' => match r with
      | Except.ok (Flow.ret v) => wpAny (model prog w) A.in1 (ret v) (fun fin s' => ∃ v, fin = Fin.done (Flow.ret v) ∧ R (Except.ok (Flow.ret v)) s') (fun e s' => R (Except.error e) s') s'
      | Except.ok _ => False
      | Except.error e => R (Except.error e) s') _ ⟨hl, ?_⟩))
    wp_walk
    exact ⟨_, rfl, h⟩
theorem ri_calls {prog : Program} {w : World} {A : Around} {E : Value → Shared → Prop} {s : Shared} {l : Addr} {items : Array Value} {n : Nat} {Q : Value → Shared → Prop} (hl : IsL s.heap l items n)
    (hQ : Q (.ref s.heap.objs.size) { s with heap := s.heap.push (RI l (((items.size : Nat) : Int) - 1)) }) : wpAny (model prog w) A (call (.type "reversed") [.ref l]) Q E s :=
  ri_call (codeAny_call_builtin (by decide +kernel) ri_new_entry (wpAny_of_eq (show checkBuiltinCall "reversed.__new__" ⟨[.type "reversed", .ref l], []⟩ = pure () by kernel_rfl) (ri_new l items n prog w _ _ s ⟨hl, ⟨_, Heap.get?_push_size _ rfl, rfl⟩, hQ⟩)))
/-- a reverse iterator, taken i things -/
theorem wk_rev {prog : Program} {w : World} {A : Around} (hh : A.handled = none) {I l : Addr} (hne : l ≠ I) (xs : Array Value) (n : Nat) {m : Nat} (hm : m = xs.size) :
    WK prog w A I [I, l] [I] false m (fun i v _ => xs[xs.size - 1 - i]? = some v) (fun i v h => xs[xs.size - 1 - i]? = some v ∧ i + 1 ≤ xs.size ∧ h.get? I = some (RI l ((xs.size : Int) - 1 - (i + 1 : Nat))) ∧ IsL h l xs n) (fun i h => i ≤ xs.size ∧ h.get? I = some (RI l ((xs.size : Int) - 1 - i)) ∧ IsL h l xs n) where
  sub := fun b hb => by rw [List.mem_singleton.mp hb]; exact List.mem_cons_self ..
  ex := fun i h hs b hb e => by rw [List.mem_singleton.mp hb, hs.2.1] at e; cases e
  frame := fun i h h' hs hk => ⟨hs.1, hk I (List.mem_cons_self ..) _ hs.2.1, hk l (List.mem_cons_of_mem _ (List.mem_cons_self ..)) _ hs.2.2⟩
  item := fun i s Q E hi hs hQ => by
    have e : (xs.size : Int) - 1 - i = ((xs.size - 1 - i : Nat) : Int) := by omega
    have h1 := hs.2.1
    rw [e] at h1
    have hx : xs[xs.size - 1 - i]? = some (xs[xs.size - 1 - i]'(by omega)) := Array.getElem?_eq_getElem (by omega)
    have e2 : ((xs.size - 1 - i : Nat) : Int) - 1 = (xs.size : Int) - 1 - ((i + 1 : Nat) : Int) := by omega
    refine ri_one h1 hs.2.2 hx ?_
    rw [e2]
    refine hQ _ _ s.toks ⟨hx, by omega, ?_, ?_⟩ nofun fun b o hb eo => ?_
    · exact Heap.get?_update_self _ h1 rfl
    · exact Heap.get?_update_of_ne _ (Ne.symm hne) hs.2.2
    · exact Heap.get?_update_of_ne _ (fun q => hb (q ▸ List.mem_singleton.mpr rfl)) eo
  done := fun s Q E _ _ hs hQ => by
    have h1 := hs.2.1
    rw [show (xs.size : Int) - 1 - m = -1 by omega] at h1
    exact ri_end hh h1 fun h' hk => hQ h' s.toks fun b o _ e => hk b o e
  own := fun i s v t Q E hs _ hQ => own_plain ⟨_, hs.2.2.1, rfl⟩ (by decide) (hQ s.heap hs.2 hs.1 fun _ _ _ e => e)
  self := fun i s Q E hs hQ => ri_self hs.2.1 hQ

section
variable {G : PG} {d : Nat} {c : Sc}
theorem si_rev {e : E} {y : Str} {p pos : Pos} {z : Expr} (hg : isGlob c y "reversed" = true) (hz : noStar z = true) (he : SE G d c e z) : SI G d c (.rev e) (.Call (.Name y p) [z] [] pos) := by
  intro A env lay Sys base st s F Q X K E hW hK hX
  refine ev_call_t (es := .cons e .nil) (X := X) (Q := fun vs => ∃ u, vs = [u] ∧ seqP st.H u fun ws => Q ws.reverse (depsV u)) F hg (by decide) rfl (ses_cons hz he ses_nil) ?_ ?_ hX
  · simp only [wes_0, wes_1, List.cons.injEq, and_true, exists_eq_left']; exact hW
  · rintro vs vals s₁ ⟨u, rfl, h₁⟩ r k
    apply one_arg r; intro va r1
    · obtain ⟨ws, hws, h₁⟩ := seqP_inv h₁
      have F₁ := F.keeps k
      apply seq_dep F₁.sim.objs r1 hws; intro a xs n hl hsz rx hdep
      refine ri_calls hl (ri_self (Heap.get?_push_size _ rfl) ?_)
      have hne : a ≠ s₁.heap.objs.size := Nat.ne_of_lt (Heap.lt_size hl)
      have hlen : ws.reverse.length = xs.size := (List.length_reverse ..).trans rx.size
      have hsi : (s₁.heap.push (RI a (((xs.size : Nat) : Int) - 1))).get? s₁.heap.objs.size = some (RI a ((xs.size : Int) - 1 - (0 : Nat))) := by
        rw [Heap.get?_push_size _ rfl]; simp
      refine hK _ _ _ _ h₁ (k.trans (Kp.ofH (HK.push _ _))) ⟨[s₁.heap.objs.size, a], [s₁.heap.objs.size], _, _, _, wk_rev (F₁.cold (isGlob_cold hg rfl)) hne xs n hlen, ⟨Nat.zero_le _, hsi, Heap.get?_push_of_some _ hl⟩, ?_, ?_, ?_, ?_⟩
      · intro b hb; rw [List.mem_singleton.mp hb]; exact fresh_keeps k (fresh_size _)
      · intro b hb
        rcases List.mem_cons.mp hb with rfl | hb
        · exact ⟨_, Heap.get?_push_size _ rfl⟩
        · rw [List.mem_singleton.mp hb]; exact ⟨_, Heap.get?_push_of_some _ hl⟩
      · intro b hb hw
        rcases List.mem_cons.mp hb with rfl | hb
        · exact absurd (List.mem_singleton.mpr rfl) hw
        · rw [List.mem_singleton.mp hb]; exact hdep
      · intro i v val h hv hp
        refine item_rv rx.reverse (fresh_size _) (HK.push _ _) hv ?_
        have hi := (List.getElem?_eq_some_iff.mp hv).1
        rw [List.getElem?_reverse (by rw [Array.length_toList]; omega), Array.length_toList, Array.getElem?_toList]
        exact hp
end
end Mine
end

section
set_option autoImplicit false
namespace Mine
open PySem

section
variable {prog : Program} {w : World} {A : Around} {E : Value → Shared → Prop} {s : Shared}

end
/-! enumerate -/
section
variable {G : PG} {d : Nat} {c : Sc}
end
end Mine
end

section
set_option autoImplicit false
namespace Mine
open PySem

section
variable {prog : Program} {w : World} {A : Around} {E : Value → Shared → Prop} {s : Shared} {b1 b2 : Bool} {l1 l2 : Addr} {xs ys : Array Value} {n1 n2 : Nat} {N : Addr} {k : Nat}

end

theorem in4 {c N : Nat} (h : c ∉ [N + 4, N + 3, N, N + 1]) : c ≠ N + 4 ∧ c ≠ N + 3 ∧ c ≠ N ∧ c ≠ N + 1 := by simpa using h
section
variable {G : PG} {d : Nat} {c : Sc}
end
end Mine
end

section
set_option autoImplicit false
namespace Mine
open PySem PySem.NumText

noncomputable def one1 : List V → (V → Prop) → Prop
  | [u], P => P u
  | _, _ => False
theorem one1_inv {vs : List V} {P : V → Prop} (h : one1 vs P) : ∃ u, vs = [u] ∧ P u := by
  rcases vs with _ | ⟨a, _ | ⟨b, r⟩⟩
  · exact False.elim h
  · exact ⟨_, rfl, h⟩
  · exact False.elim h
/-! int(..) of figures -/
theorem tx_seen {x : Str} {n : Int} {v : Value} {M : Model} {A : Around} {E : Value → Shared → Prop} {s : Shared} {Q : Value → Shared → Prop} (hl : x.length ≤ 100) (hn : intText? x = some n) (h : Q (.int n s.toks) { s with toks := s.toks + 1 }) :
    wpAny M A ((int_private% "intFromText") v (numTextOf x) 10) Q E s := by
  have hs : (numSeenOf x).length ≤ 640 := Nat.le_trans (seen_length x) (Nat.le_trans hl (by decide))
  obtain ⟨e, hr⟩ : ((numSeenOf x).length == (numTextOf x).length) = true ∧ (int_private% "readNumeral") 0 10 (numSeenOf x) = (int_private% "Numeral.value") n := by
    rcases read0 x hs with ⟨m, h1, h2, h3⟩ | ⟨h1, _⟩
    · rw [hn] at h1; cases h1; exact ⟨h2, h3⟩
    · rw [hn] at h1; cases h1
  wp_delta
  refine wpAny_ite_true (decide_eq_true hs) (wpAny_bind (wpAny_pure ?_))
  dsimp only
  rw [hr]
  exact wpAny_ite_true (decide_eq_true e) (wpAny_mkInt h)
theorem str_noint : typeLookup (.type "str") "__int__" = pure none := by rw [typeLookup_type, builtinLookup_eq_fast]; kernel_rfl
theorem str_noidx : typeLookup (.type "str") "__index__" = pure none := by rw [typeLookup_type, builtinLookup_eq_fast]; kernel_rfl
theorem str_notrunc : typeLookup (.type "str") "__trunc__" = pure none := by rw [typeLookup_type, builtinLookup_eq_fast]; kernel_rfl
set_option maxRecDepth 100000 in
theorem tx_new {x : Str} {u : Tok} {n : Int} (hl : x.length ≤ 100) (hn : intText? x = some n) : Gives (Builtin.«int.__new__» ⟨[.type "int", .str x u], []⟩) (.int n) :=
  .of_wp fun M A E s Q h => by
    obtain ⟨hp, g, d, tk, os⟩ := s
    have f1 := F.conv_sub_int
    have f2 := F.madeHere_int
    have f3 := str_noint
    have f4 := str_noidx
    have f5 := str_notrunc
    have f6 : typeOf (.str x u) = pure (.type "str") := rfl
    have ht := fun (v : Value) (s : Shared) (Q : Value → Shared → Prop) => tx_seen (v := v) (M := M) (A := A) (E := E) (s := s) (Q := Q) hl hn
    clear hl hn
    repeat (any_goals (first
      | assumption
      | with_reducible refine ht _ _ _ ?_
      | wp_step))
    all_goals exact ⟨_, rfl, h⟩
theorem allDigits_eq {l : List Nat} (h : allDigits l = true) : AllDigits l := fun c hc => by
  unfold allDigits at h
  rw [List.all_eq_true] at h
  have := h c hc
  simpa using this
section
variable {G : PG} {d : Nat} {c : Sc} {A : Around} {env : Env} {lay : Nat → Option Place} {Sys : Addr → Prop} {base : Heap} {st : St} {s : Shared}

/-- a call of a type on one thing -/
theorem ev_one {n : String} {e : E} {z : Expr} {y : Str} {p pos : Pos} {Q : V → Prop} {X : String → Prop} {K E : Value → Shared → Prop} (F : Fx G d c A env lay Sys base st s) (hg : isGlob c y n = true) (hn : n ∈ bnames) (hv : bval n = .type n) (hz : noStar z = true) (he : SE G d c e z)
    (hW : WE (G.cx d) e st Q X) (hK : ∀ u va s', Q u → RV (NN st.H Sys) s'.heap u va → Kp (FZ A Sys) s s' → wpAny (model G.prog G.w) A (call (.type n) [va]) K E s') (hX : ∀ e s', Rz G.mg A Sys s X e s' → E e s') :
    wpAny (model G.prog G.w) A (eval (.Call (.Name y p) [z] [] pos) env) K E s := by
  refine ev_call_t (es := .cons e .nil) (X := X) (Q := fun vs => one1 vs Q) F hg hn hv (ses_cons hz he ses_nil) hW ?_ hX
  intro vs vals s₁ h₁ r k
  obtain ⟨u, rfl, h₁⟩ := one1_inv h₁
  apply one_arg r; intro va r1
  exact hK u _ s₁ h₁ r1 k

theorem se_int {a : E} {y : Str} {z : Expr} {p pos : Pos} (F : Fx G d c A env lay Sys base st s) (hg : isGlob c y "int" = true) (hz : noStar z = true) (ha : SE G d c a z) :
    Snd G.prog G.w G.mg A (NN st.H Sys) Sys s false (eval (.Call (.Name y p) [z] [] pos) env) (WE (G.cx d) (.intOf a) st) := by
  intro Q X K E hW hK hX
  refine ev_one F hg (by decide) rfl hz ha hW (fun u va s₁ h₁ r k => ?_) hX
  cases u with
  | bool b =>
    apply RV.elim r
    exact call_int_bool (hK _ _ _ h₁ (.int _ _) (k.trans (Kp.tok _ _)) nofun)
  | str x =>
    apply RV.elim r; intro t ho
    obtain ⟨h1, h2, h3, h4⟩ := h₁
    have hn : x.cps.toList ≠ [] := fun q => by
      have : x.cps.toList.length = 0 := by rw [q]; rfl
      rw [Array.length_toList] at this
      exact Nat.ne_of_gt h2 this
    exact call_int_1 (tx_new (u := t) h3 (intText_digits (allDigits_eq h1) hn (Nat.le_trans h3 (by decide)))).meets ⟨rfl, hK _ _ _ h4 (.int _ _) (k.trans (Kp.tok _ _)) nofun⟩
  | _ => exact False.elim h₁
end
end Mine
end

section
set_option autoImplicit false
namespace Mine
open PySem

noncomputable abbrev KI (d : Addr) (i n ep : Nat) : Obj := { cls := .type "dict_keyiterator", dict := none, data := .fields #[.ref d, .int i 0, .int n 0, .int ep 0], slots := #[] }
noncomputable abbrev DO (es : Array DictEntry) (ep : Nat) : Obj := { cls := .type "dict", dict := none, data := .dict es ep, slots := #[] }
section
variable {prog : Program} {w : World} {A : Around} {E : Value → Shared → Prop} {s : Shared} {d it : Addr} {es : Array DictEntry} {ep : Nat}

theorem ki_new {Q : Value → Shared → Prop} (hd : s.heap.get? d = some (DO es ep)) (hsm : (d == sysModules) = false) (hQ : Q (.ref s.heap.objs.size) { s with heap := s.heap.push (KI d 0 es.size ep) }) : wpAny (model prog w) A (pyIter (.ref d)) Q E s := by
  have hT : s.TypeIs (.ref d) "dict" := ⟨_, hd, rfl⟩
  refine wpAny_pyIter_slot hT F.slot_dict_iter (wpAny_call_entry F.slot_dict_iter hT F.entry_dict_iter ?_ (F.args_dict_iter_1 _))
  unfold Builtin.«dict.__iter__» Builtin.Dict.dictSlotNone
  refine wpAny_bind (wpAny_bind (wpAny_notOrdered_dict hT (wpAny_pure ?_)))
  show wpAny _ _ (Builtin.Dict.showsAll d >>= _) _ _ s
  unfold Builtin.Dict.showsAll
  refine wpAny_bind (wpAny_ite_false (by rw [hsm]; rfl) (wpAny_pure ?_))
  refine wpAny_bind (wpAny_dictEntries hd rfl (wpAny_bind (wpAny_dictEpoch hd rfl (wpAny_bind (wpAny_newObj_type (wpAny_pure ⟨_, rfl, "dict_keyiterator", _, ⟨_, Heap.get?_push_size _ rfl, rfl⟩, F.slot_dict_keyiterator_next.lookup, hQ⟩))))))
theorem ki_item {i : Nat} {e : DictEntry} {Q : Option Value → Shared → Prop} (hi : s.heap.get? it = some (KI d i es.size ep)) (hd : s.heap.get? d = some (DO es ep)) (he : es[i]? = some e)
    (hQ : Q (some e.key) { s with heap := s.heap.update it (Obj.mapFields (·.setIfInBounds 1 (rawInt ((i : Int) + 1)))) }) : wpAny (model prog w) A (pyNext (.ref it)) Q E s := by
  have hT : s.TypeIs (.ref it) "dict_keyiterator" := ⟨_, hi, rfl⟩
  unfold pyNext
  refine wpAny_bind (wpAny_attempt (wpAny_callSpecial?_slot (name := Str.ofString "__next__") hT F.slot_dict_keyiterator_next (wpAny_call_entry F.slot_dict_keyiterator_next hT F.entry_dict_keyiterator_next ?_ (F.args_dict_keyiterator_next_1 _))))
  refine wpAny_bind (wpAny_pure (wpAny_bind (wpAny_bind (wpAny_bind (wpAny_typeNameOfWhole_keyiter hT (wpAny_pure ?_))))))
  refine wpAny_bind (wpAny_fieldsOf hi rfl ?_)
  have hown : Builtin.Dict_items.ownsTuple "dict_keyiterator" = false := by decide
  simp only [hown, Bool.false_eq_true, if_false]
  refine wpAny_ite_false rfl (wpAny_bind (wpAny_pure (wpAny_bind (wpAny_dictEntries hd rfl ?_))))
  rw [if_neg (by simp)]
  refine wpAny_bind (wpAny_pure (wpAny_bind (wpAny_dictEpoch hd rfl ?_)))
  rw [if_neg (by simp)]
  refine wpAny_pure ?_
  simp only [show ¬ ((i : Int) < 0) from by omega, if_false, Int.toNat_natCast, he]
  refine wpAny_bind (wpAny_bind (wpAny_typeNameOfWhole_keyiter hT (wpAny_pure ?_)))
  refine wpAny_bind (wpAny_isOneOf_keyiter hT ?_)
  show wpAny _ _ (setField (.ref it) 1 (rawInt ((i : Int) + 1)) >>= _) _ _ s
  refine wpAny_bind (wpAny_setField hi rfl (by simp) ?_)
  have hT' : Shared.TypeIs { s with heap := s.heap.update it (Obj.mapFields (·.setIfInBounds 1 (rawInt ((i : Int) + 1)))) } (.ref it) "dict_keyiterator" := ⟨_, Heap.get?_update_self _ hi rfl, rfl⟩
  refine wpAny_bind (wpAny_holding (wpAny_bind (wpAny_isOneOf_keyiter hT' ?_)))
  show wpAny _ _ (pure e.key) _ _ _
  exact wpAny_pure (wpAny_pure ⟨_, rfl, wpAny_pure hQ⟩)
theorem ki_end {i : Nat} {Q : Option Value → Shared → Prop} (hh : A.handled = none) (hi : s.heap.get? it = some (KI d i es.size ep)) (hd : s.heap.get? d = some (DO es ep)) (he : es[i]? = none)
    (hQ : ∀ h', Heap.ExtBut it s.heap h' → Q none { s with heap := h' }) : wpAny (model prog w) A (pyNext (.ref it)) Q E s := by
  have hT : s.TypeIs (.ref it) "dict_keyiterator" := ⟨_, hi, rfl⟩
  have hh' : A.in1.handled = none := hh
  unfold pyNext
  refine wpAny_bind (wpAny_attempt (wpAny_callSpecial?_slot (name := Str.ofString "__next__") hT F.slot_dict_keyiterator_next (wpAny_call_entry F.slot_dict_keyiterator_next hT F.entry_dict_keyiterator_next ?_ (F.args_dict_keyiterator_next_1 _))))
  refine wpAny_bind (wpAny_pure (wpAny_bind (wpAny_bind (wpAny_bind (wpAny_typeNameOfWhole_keyiter hT (wpAny_pure ?_))))))
  refine wpAny_bind (wpAny_fieldsOf hi rfl ?_)
  have hown : Builtin.Dict_items.ownsTuple "dict_keyiterator" = false := by decide
  simp only [hown, Bool.false_eq_true, if_false]
  refine wpAny_ite_false rfl (wpAny_bind (wpAny_pure (wpAny_bind (wpAny_dictEntries hd rfl ?_))))
  rw [if_neg (by simp)]
  refine wpAny_bind (wpAny_pure (wpAny_bind (wpAny_dictEpoch hd rfl ?_)))
  rw [if_neg (by simp)]
  refine wpAny_pure ?_
  simp only [show ¬ ((i : Int) < 0) from by omega, if_false, Int.toNat_natCast, he]
  refine wpAny_bind (wpAny_bind (wpAny_typeNameOfWhole_keyiter hT (wpAny_pure ?_)))
  show wpAny _ _ (setField (.ref it) 0 .none >>= _) _ _ s
  refine wpAny_bind (wpAny_setField hi rfl (by simp) ?_)
  obtain ⟨hp, g, dd, tk, os⟩ := s
  wp_walk
  unfold raiseNew
  wp_walk
  refine wpAny_of_eq isSubtype_stop ?_
  exact wpAny_pure (hQ _ (((Heap.SameBut.update ..).extBut.push _).push _))
end
theorem wk_keys {prog : Program} {w : World} {A : Around} (hh : A.handled = none) {I d : Addr} (hne : d ≠ I) (es : Array DictEntry) (ep : Nat) {m : Nat} (hm : m = es.size) :
    WK prog w A I [I, d] [I] false m (fun i v _ => ∃ e, es[i]? = some e ∧ v = e.key) (fun i v h => (∃ e, es[i]? = some e ∧ v = e.key) ∧ h.get? I = some (KI d (i + 1) es.size ep) ∧ h.get? d = some (DO es ep)) (fun i h => h.get? I = some (KI d i es.size ep) ∧ h.get? d = some (DO es ep)) where
  sub := fun b hb => by rw [List.mem_singleton.mp hb]; exact List.mem_cons_self ..
  ex := fun i h hs b hb e => by rw [List.mem_singleton.mp hb, hs.1] at e; cases e
  frame := fun i h h' hs hk => ⟨hk I (List.mem_cons_self ..) _ hs.1, hk d (List.mem_cons_of_mem _ (List.mem_cons_self ..)) _ hs.2⟩
  item := fun i s Q E hi hs hQ => by
    have hx : es[i]? = some (es[i]'(by omega)) := Array.getElem?_eq_getElem (by omega)
    refine ki_item hs.1 hs.2 hx (hQ _ _ s.toks ⟨⟨_, hx, rfl⟩, ?_, ?_⟩ nofun fun b o hb eo => ?_)
    · exact Heap.get?_update_self _ hs.1 rfl
    · exact Heap.get?_update_of_ne _ (Ne.symm hne) hs.2
    · exact Heap.get?_update_of_ne _ (fun q => hb (q ▸ List.mem_singleton.mpr rfl)) eo
  done := fun s Q E _ _ hs hQ => ki_end hh hs.1 hs.2 (Array.getElem?_eq_none (by omega)) fun h' hk => hQ h' s.toks fun b o hb e => hk b o (fun q => hb (q ▸ List.mem_singleton.mpr rfl)) e
  own := fun i s v t Q E hs _ hQ => own_plain ⟨_, hs.2.1, rfl⟩ (by decide) (hQ s.heap hs.2 hs.1 fun _ _ _ e => e)
  self := fun i s Q E hs hQ => wpAny_pyIter_keyiter (i := i) (n := es.size) (ep := ep) ⟨_, hs.1, rfl, rfl⟩ hQ
section
variable {G : PG} {d : Nat} {c : Sc}
theorem si_keys {e : E} {x : Expr} (hcold : c.hot = false) (he : SE G d c e x) : SI G d c (.keys e) x := by
  intro A env lay Sys base st s F Q X K E hW hK hX
  refine (he F).weak _ X _ E hW (fun u va s₁ h₁ r₁ k₁ _ => ?_) hX
  obtain ⟨b, kvs, rfl, hb, h₁⟩ := dictP_inv h₁
  have F₁ := F.keeps k₁
  cases r₁
  cases F₁.sim.objs b _ hb with
  | dict a1 a2 a3 a4 a5 a6 a7 a8 =>
    rename_i es ep xs
    have hne : b ≠ s₁.heap.objs.size := Nat.ne_of_lt (Heap.lt_size a1)
    have hsz : es.size = xs.length := by rw [← Array.length_toList, a2, List.length_map]
    have hlen : (kvs.map fun p => keyV p.1).length = es.size := by
      have := congrArg List.length a5
      simp only [List.length_map] at this
      rw [List.length_map, this, hsz]
    refine ki_new a1 a8 (hK _ _ _ _ h₁ (k₁.trans (Kp.ofH (HK.push _ _))) ⟨[s₁.heap.objs.size, b], [s₁.heap.objs.size], _, _, _, wk_keys (F₁.cold hcold) hne es ep hlen, ⟨Heap.get?_push_size _ rfl, Heap.get?_push_of_some _ a1⟩, ?_, ?_, ?_, ?_⟩)
    · intro q hq; rw [List.mem_singleton.mp hq]; exact fresh_keeps k₁ (fresh_size _)
    · intro q hq
      rcases List.mem_cons.mp hq with rfl | hq
      · exact ⟨_, Heap.get?_push_size _ rfl⟩
      · rw [List.mem_singleton.mp hq]; exact ⟨_, Heap.get?_push_of_some _ a1⟩
    · intro q hq hw
      rcases List.mem_cons.mp hq with rfl | hq
      · exact absurd (List.mem_singleton.mpr rfl) hw
      · rw [List.mem_singleton.mp hq]; exact .inr ⟨List.mem_singleton.mpr rfl, by rw [hb]; exact nofun⟩
    · rintro i v val h hv ⟨en, hen, rfl⟩
      have hen' : (xs.map (dent G.hf))[i]? = some en := by rw [← a2, Array.getElem?_toList]; exact hen
      rw [List.getElem?_map] at hen'
      cases hx : xs[i]? with
      | none => rw [hx] at hen'; cases hen'
      | some x =>
        rw [hx] at hen'; cases hen'
        have hk : v = keyV x.1 := by
          have h5 : (kvs.map (·.1))[i]? = some x.1 := by rw [a5, List.getElem?_map, hx]; rfl
          rw [List.getElem?_map] at hv h5
          cases hkv : kvs[i]? with
          | none => rw [hkv] at h5; cases h5
          | some p =>
            rw [hkv] at hv h5
            have e1 : p.1 = x.1 := Option.some.inj h5
            have e2 : keyV p.1 = v := Option.some.inj hv
            rw [← e2, e1]
        rw [hk]
        refine (a6 x (List.mem_of_getElem? hx)).gen (fun b q => ?_) fun b o _ e => HK.push _ _ b o e
        rcases NN.more q with q | q
        · exact .inl q
        · rw [List.mem_singleton.mp q]; exact .inr (fresh_size _)
end
section
variable {G : PG} {d : Nat} {c : Sc} {A : Around} {env : Env} {lay : Nat → Option Place} {Sys : Addr → Prop} {base : Heap} {st : St} {s : Shared}
theorem se_get {e k v : E} {o z u : Expr} {ap cp : Pos} (F : Fx G d c A env lay Sys base st s) (he : SE G d c e o) (hk : SE G d c k z) (hv : SE G d c v u) (hb : baseX o = true) (hz : noStar z = true) (hu : noStar u = true) (hl : (ap.endLine == cp.line) = true) :
    Snd G.prog G.w G.mg A (NN st.H Sys) Sys s false (eval (.Call (.Attribute o (Str.ofString "get") ap) [z, u] [] cp) env) (WE (G.cx d) (.get e k v) st) := by
  intro Q X K E hW hK hX
  have hbase : attributeBase o (Str.ofString "get") env (eval o env) = eval o env := by cases o <;> first | rfl | exact ff hb
  have hst : backTo cp (starEach [z, u] env) = [(false, eval z env), (false, eval u env)] := by rw [starEach_cons hz, starEach_cons hu]; rfl
  refine wpAny_Call_method (T := "dict") (id := "dict.get") hbase (by rw [hst]; rfl) hl PySem.F.plainAttrs_dict PySem.F.slot_dict_get PySem.F.type_dict_get ?_
  rw [hst]
  refine (he F).weak _ X _ E hW (fun uu va s₁ h₁ r₁ k₁ _ => ?_) hX
  have F₁ := F.keeps k₁
  obtain ⟨b, kvs, e', hb, hV1⟩ := dictP_inv h₁
  subst e'
  cases r₁
  obtain ⟨xs, D⟩ := dict_at (prog := G.prog) (w := G.w) rfl F₁.sim.objs hb
  obtain ⟨ob, _, _, hob, hex, _⟩ := id D.of
  refine ⟨D.of.typeIs, fun a ea => by cases ea; exact ⟨ob, hob, hex.2.1⟩, ?_⟩
  refine wpAny_dict_get2_heap (knd := tupleKind (mixKind G.prog G.w)) (dRoom F₁.rm) D.sm ((hk F₁).weak _ X _ E hV1 (fun kk kv s₂ h₂ r₂ k₂ _ => ?_) fun e s' q => hX e s' (Rz.trans k₁ q))
  have F₂ := F₁.keeps k₂
  refine (hv F₂).weak _ X _ E h₂ (fun w wv s₃ h₃ r₃ k₃ _ => ?_) fun e s' q => hX e s' (Rz.trans (k₁.trans k₂) q)
  have F₃ := F₂.keeps k₃
  obtain ⟨ks, hks, hV⟩ := keyP_inv h₃
  subst hks
  obtain ⟨ka, rfl, hka⟩ := key_at (prog := G.prog) (w := G.w) (r₂.kz k₃.hw)
  obtain ⟨ys, D'⟩ := dict_at (prog := G.prog) (w := G.w) rfl F₃.sim.objs hb
  refine ⟨ka, ks, ys, rfl, hka, D'.of, ?_⟩
  rcases look_at ks D'.vals D'.keys with ⟨e1, e2⟩ | ⟨x, p, e1, e2, rv⟩
  · rw [e1] at hV; rw [e2]
    exact hK _ _ _ hV r₃ (((k₁.trans k₂).trans k₃).trans (Kp.tok _ _)) nofun
  · rw [e1] at hV; rw [e2]
    exact hK _ _ _ hV rv (((k₁.trans k₂).trans k₃).trans (Kp.tok _ _)) nofun
end
end Mine
end

section
set_option autoImplicit false
namespace Mine
open PySem

section
variable {G : PG} {d : Nat} {c : Sc} {A : Around} {env : Env} {lay : Nat → Option Place} {Sys : Addr → Prop} {base : Heap} {st : St} {s : Shared} {H : AH}

/-- list(..) of a thing to walk -/
noncomputable abbrev SL (G : PG) (d : Nat) (c : Sc) (it : It) (z : Expr) : Prop :=
  ∀ {A : Around} {env : Env} {lay : Nat → Option Place} {Sys : Addr → Prop} {base : Heap} {st : St} {s : Shared} {y : Str} {p pos : Pos}, Fx G d c A env lay Sys base st s → isGlob c y "list" = true → noStar z = true →
    Snd G.prog G.w G.mg A (NN st.H Sys) Sys s true (eval (.Call (.Name y p) [z] [] pos) env) (WE (G.cx d) (.listOf it) st)

theorem new_at {hsh : HFn} {h h' : Heap} {vs : List V} {xs : Array Value} {n : Nat} {a : Addr} (ho : HO hsh H Sys h) (hsys : ∀ a, Sys a → h.get? a ≠ none) (hf : h.get? a = none) (hl : IsL h' a xs n) (hz : xs.size ≤ sizeLine) (r : RVs (NN H Sys) h' vs xs.toList) :
    RV (NN H Sys) h' (.lst vs) (.ref a) := by
  refine .lst (fun q => ?_) hl hz r
  rcases q with q | q
  · cases e : H a with
    | none => exact q e
    | some o =>
      obtain ⟨ob, e'⟩ := (ho _ _ e).exists
      rw [hf] at e'; cases e'
  · exact hsys _ q hf

theorem RVs.of_get {N : Addr → Prop} {h : Heap} : ∀ {vs : List V} {xs : List Value}, vs.length = xs.length → (∀ (i : Nat) (v : V) (x : Value), vs[i]? = some v → xs[i]? = some x → RV N h v x) → RVs N h vs xs
  | [], [], _, _ => .nil
  | v :: vs, x :: xs, hl, hg => .cons (hg 0 v x rfl rfl) (RVs.of_get (by simpa using hl) fun i u y a b => hg (i + 1) u y (by simpa using a) (by simpa using b))
  | [], _ :: _, hl, _ => by simp at hl
  | _ :: _, [], hl, _ => by simp at hl

theorem sl_range1 {e : E} {y' : Str} {p' pos' : Pos} {z : Expr} (hcold : c.hot = false) (hg' : isGlob c y' "range" = true) (hz' : noStar z = true) (he : SE G d c e z) : SL G d c (.range1 e) (.Call (.Name y' p') [z] [] pos') := by
  intro A env lay Sys base st s y p pos F hg hz Q X K E hW hK hX
  rw [arm_eval_Call_Name']
  refine wpAny_bind (ld_bltn F hg (by decide) ?_)
  rw [show bval "list" = .type "list" from rfl]
  refine callWith_type (star_plain pos env [.Call (.Name y' p') [z] [] pos'] rfl) ?_
  refine Calls.evalArgs_plain (Calls.spliced_cons ?_)
  refine ev_call_t (es := .cons e .nil) (X := X) (Q := fun vs => rng1 vs fun i => (upL 0 i).length ≤ sizeLine ∧ Q (.lst (upL 0 i))) F hg' (by decide) rfl (ses_cons hz' he ses_nil) hW ?_ hX
  · intro vs vals s₁ q r k
    obtain ⟨i, rfl, ⟨h1, h2⟩, h3, h₁⟩ := rng1_inv q
    cases r with
    | cons r1 r2 =>
      cases r2; cases r1; rename_i tt
      refine call_range_1 (Calls.spliced_nil ?_)
      have F₁ := F.keeps k
      have hk1 := HK.push s₁.heap { cls := .type "range", data := .fields #[.int 0 s₁.toks, .int i tt, .int 1 (s₁.toks + 1)] }
      have hn0 : Builtin.Range.rangeSize 0 i 1 = ((i.toNat : Nat) : Int) := by rw [rangeSize_one]; split <;> omega
      rw [upL_length] at h3
      have hsl : sizeLine = 2 ^ 24 := by decide
      refine call_list_range (F.cold hcold) (IsRange.new ..) (small_one (by decide) (by decide) h1 h2) hn0 (by rw [hsl] at h3; simpa using h3) fun h' tk acc' c' hk hn hi => ?_
      have kh : HK s₁.heap h' := fun b o e => hk b o (hk1 b o e)
      have kk : Kp (FZ A Sys) s₁ { s₁ with heap := h', toks := tk } := Kp.of kh
      have hf : s₁.heap.get? (s₁.heap.push { cls := .type "range", data := .fields #[.int 0 s₁.toks, .int i tt, .int 1 (s₁.toks + 1)] }).objs.size = none := Heap.get?_none_of_le (by rw [Heap.size_push]; omega)
      have hlen : acc'.size = i.toNat := hi.1
      have rr : ∀ (N : Addr → Prop) (h : Heap), RVs N h (upL 0 i) acc'.toList := fun N h => RVs.of_get (by simp [hlen, upL_length]) fun j v x hv hx => ?_
      exact hK _ _ _ h₁ (new_at F₁.sim.objs F₁.sim.live hf hn (by rw [hlen]; simpa using h3) (rr _ _)) (k.trans kk) fun _ => (Frsh.mk (s := s₁) (s' := { s₁ with heap := h', toks := tk }) hf (rr _ _) kh hn (by rw [hlen]; simpa using h3)).before k
      obtain ⟨t', rfl⟩ := hi.2 j x (by simpa using hx)
      rw [upL_get hv]
      simpa using RV.int (0 + (j : Int)) t'
end

end Mine
end

section
set_option autoImplicit false
namespace Mine
open PySem
section
variable {prog : Program} {w : World} {A : Around} {E : Value → Shared → Prop} {s : Shared}

end

section
variable {G : PG} {d : Nat} {c : Sc}
end
end Mine
end

section
set_option autoImplicit false
namespace Mine
open PySem

theorem cut_mem {α : Type} {xs : List α} {lo hi : Nat} {x : α} (h : x ∈ cutL xs lo hi) : x ∈ xs := List.mem_of_mem_drop (List.mem_of_mem_take h)
theorem cut_len {α : Type} (xs : List α) (lo hi : Nat) : (cutL xs lo hi).length ≤ xs.length := by simp [cutL]; omega
theorem RVs.cut {N : Addr → Prop} {h : Heap} {vs : List V} {xs : List Value} (r : RVs N h vs xs) (lo hi : Nat) : RVs N h (cutL vs lo hi) (cutL xs lo hi) := by
  have hl := r.length
  refine RVs.of_get (by simp [cutL, hl]) fun i v x hv hx => ?_
  simp only [cutL, List.getElem?_take, List.getElem?_drop] at hv hx
  split at hv
  · rename_i hlt
    rw [if_pos hlt] at hx
    obtain ⟨x', e, rx⟩ := r.get _ hv
    rw [hx] at e; cases e; exact rx
  · cases hv

theorem bnd_part {N : Addr → Prop} {h : Heap} {n e : Nat} {v : V} {x : Value} {k : Nat} (r : RV N h v x) (hb : bnd n e v = some k) : ∃ o : Option Int, IsPart x o ∧ k = o.elim e (clipAt n) ∧ ∃ l : Option (Int × Tok), x = partValue l ∧ l.map (·.1) = o := by
  cases r <;> simp [bn_none, bn_int, bn_bool, bn_str, bn_tup, bn_lst, bn_ref, bn_inst, bn_iref, bn_exc, bn_dct] at hb
  · exact ⟨none, .none, hb.symm, none, rfl, rfl⟩
  · rename_i i t
    exact ⟨some i, .int i t, hb.symm, some (i, t), rfl, rfl⟩

theorem strIdx (lo hi : Option Int) (n : Nat) : Builtin.Str.strSliceIndices lo hi 1 n = sliceRange ((lo.elim 0 (clipAt n) : Nat) : Int) ((hi.elim n (clipAt n) : Nat) : Int) 1 := by
  unfold Builtin.Str.strSliceIndices
  cases lo <;> cases hi <;> simp [clipAt_cast]

section
variable {G : PG} {d : Nat} {c : Sc} {A : Around} {env : Env} {lay : Nat → Option Place} {Sys : Addr → Prop} {base : Heap} {st : St} {s : Shared} {H : AH}

/-- a bound of a cut: written, or none -/
noncomputable abbrev SP (G : PG) (d : Nat) (c : Sc) (e : E) (x : Option Expr) : Prop := match x with
  | some x => SE G d c e x
  | none => e = .none

theorem sp_eval {e : E} {x : Option Expr} {Q : V → Prop} {X : String → Prop} {K E : Value → Shared → Prop} (h : SP G d c e x) (F : Fx G d c A env lay Sys base st s) (hW : WE (G.cx d) e st Q X)
    (hK : ∀ v val s', Q v → RV (NN st.H Sys) s'.heap v val → Kp (FZ A Sys) s s' → K val s') (hX : ∀ e s', Rz G.mg A Sys s X e s' → E e s') : wpAny (model G.prog G.w) A (evalPart x env) K E s := by
  cases x with
  | none =>
    have h : e = .none := h
    subst h
    rw [evalPart_none]
    exact wpAny_pure (hK _ _ _ (by simpa [we_0, we_1, we_2, we_3, we_4, we_5, we_6, we_7, we_8, we_9, we_10, we_11, we_12, we_13, we_14, we_15, we_16, we_17, we_18, we_19, we_20, we_21, we_22, we_23, we_24, we_25, we_26, we_27, we_28, we_29, we_30, we_31, we_32, we_33, we_34, we_35, we_36, we_37] using hW) .none (Kp.refl s))
  | some x =>
    rw [evalPart_some]
    exact (show SE G d c e x from h) F |>.weak _ X _ E hW (fun v val s' q r k _ => hK v val s' q r k) hX

theorem prim_slice {value : Expr} {lower upper : Option Expr} {p : Pos} {u lv hv : V} {a l h : Value} {Q : V → Prop} {K E : Value → Shared → Prop} (F : Fx G d c A env lay Sys base st s) (hW : sliceV st.H u lv hv Q)
    (ra : RV (NN st.H Sys) s.heap u a) (rl : RV (NN st.H Sys) s.heap lv l) (rh : RV (NN st.H Sys) s.heap hv h)
    (hK : ∀ r val s', Q r → RV (NN st.H Sys) s'.heap r val → Kp (FZ A Sys) s s' → K val s') :
    wpAny (model G.prog G.w) A (PyProof.Rows.subscriptTail value (.Slice lower upper none p) a (.ref s.heap.objs.size)) K E { s with heap := s.heap.push { cls := .type "slice", data := .fields #[l, h, .none] } } := by
  have k1 : Kp (FZ A Sys) s { s with heap := s.heap.push { cls := .type "slice", data := .fields #[l, h, .none] } } := Kp.ofH (HK.push _ _)
  have F₁ := F.keeps k1
  unfold sliceV at hW
  split at hW
  · rename_i x
    cases ra with
    | str _ t hx =>
      split at hW
      · rename_i i j hi hj
        obtain ⟨oi, pi, ei, li, vi, mi⟩ := bnd_part rl hi
        obtain ⟨oj, pj, ej, lj, vj, mj⟩ := bnd_part rh hj
        subst vi vj
        refine PyProof.Rows.tail_any (typeIs_str _ x t) PySem.F.slot_str_getitem.lookup (wpAny_getItem_str_slice (l := li) (u := lj) (st := none) ⟨_, Heap.get?_push_size _ rfl, rfl, rfl⟩ rfl ?_) rfl
        have hpick : slicePicked x li lj none = (List.range (j - i)).map (i + ·) := by
          unfold slicePicked
          rw [mi, mj]
          show Builtin.Str.strSliceIndices oi oj 1 x.length = _
          rw [strIdx, ← ei, ← ej, sliceRange_one]
        have hcut : (slicePicked x li lj none).filterMap (x.cps[·]?) = cutL x.cps.toList i j := by rw [hpick, pick_run]; rfl
        have hok : SOk ⟨(cutL x.cps.toList i j).toArray⟩ := hx.sub (by have := cut_len x.cps.toList i j; simpa [Str.length] using this) fun c hc => cut_mem hc
        unfold sliceMade
        split
        · rename_i hw
          have hlen : (slicePicked x li lj none).length = x.length := by simpa using hw
          have hwhole : cutL x.cps.toList i j = x.cps.toList := by
            have h1 : j - i = x.cps.size := by rw [hpick] at hlen; simpa [Str.length] using hlen
            have hj' : j ≤ x.cps.size := by
              rw [ej]
              cases oj with
              | none => exact Nat.le_refl _
              | some z => show clipAt x.cps.size z ≤ _; unfold clipAt; omega
            have h0 : x.cps.size = 0 ∨ i = 0 := by omega
            have : x.cps.toList.length = x.cps.size := Array.length_toList
            rcases h0 with h0 | h0
            · have : x.cps.toList = [] := List.eq_nil_of_length_eq_zero (by omega)
              rw [this]; simp [cutL]
            · subst h0
              simp only [cutL, List.drop_zero]
              exact List.take_of_length_le (by omega)
          rw [hwhole] at hW
          exact hK _ _ _ hW (.str _ _ hx) k1
        · refine ⟨?_, ?_⟩
          · rw [hcut]; exact hok.1
          · rw [hcut]
            exact hK _ _ _ hW (.str _ _ hok) (k1.trans (Kp.tok _ _))
      · exact hW.elim
  · split at hW
    · rename_i vs hvs
      split at hW
      · rename_i i j hi hj
        obtain ⟨oi, pi, ei, _⟩ := bnd_part rl hi
        obtain ⟨oj, pj, ej, _⟩ := bnd_part rh hj
        apply seq_val F.sim.objs ra hvs; intro ad xs n hl hz rx
        have hsz := rx.size
        have hl1 := hl.isList.push { cls := .type "slice", data := .fields #[l, h, .none] }
        refine PyProof.Rows.tail_any hl1.typeIs slot_list_getitem.lookup (wpAny_getItem_list_slice hl1 (Heap.IsSliceOf.new ..) pi pj .none (by simp) ?_ hz) rfl
        have hpick : slicePick xs oi oj none = (cutL xs.toList i j).toArray := by
          rw [slicePick_plain, ei, ej, hsz]; rfl
        rw [hpick]
        exact hK _ _ _ hW (new_lst F₁.sim.objs F₁.sim.live (by simpa using (rx.kz k1.hw).cut i j) (by have := cut_len xs.toList i j; simp at this ⊢; omega)) (k1.trans (Kp.ofH (HK.push _ _)))
      · exact hW.elim
    · exact hW.elim

theorem se_slice {a lo hi : E} {y : Expr} {lower upper : Option Expr} {p pos : Pos} (F : Fx G d c A env lay Sys base st s) (ha : SE G d c a y) (hl : SP G d c lo lower) (hh : SP G d c hi upper) :
    Snd G.prog G.w G.mg A (NN st.H Sys) Sys s false (eval (.Subscript y (.Slice lower upper none p) pos) env) (WE (G.cx d) (.slice a lo hi) st) := by
  intro Q X K E hW hK hX
  simp only [we_0, we_1, we_2, we_3, we_4, we_5, we_6, we_7, we_8, we_9, we_10, we_11, we_12, we_13, we_14, we_15, we_16, we_17, we_18, we_19, we_20, we_21, we_22, we_23, we_24, we_25, we_26, we_27, we_28, we_29, we_30, we_31, we_32, we_33, we_34, we_35, we_36, we_37] at hW
  refine PyProof.Rows.Subscript_ ((ha F).weak _ X _ E hW (fun u va s₁ h₁ r₁ k₁ _ => ?_) hX)
  have F₁ := F.keeps k₁
  refine wpAny_Slice (sp_eval hl F₁ h₁ (fun lv l s₂ h₂ r₂ k₂ => ?_) fun e s' q => hX e s' (Rz.trans k₁ q))
  have F₂ := F₁.keeps k₂
  refine sp_eval hh F₂ h₂ (fun hv h s₃ h₃ r₃ k₃ => ?_) fun e s' q => hX e s' (Rz.trans (k₁.trans k₂) q)
  have F₃ := F₂.keeps k₃
  rw [evalPart_none]
  refine wpAny_pure ?_
  exact prim_slice F₃ h₃ (r₁.kz (k₂.trans k₃).hw) (r₂.kz k₃.hw) r₃ fun r val s' q rv k => hK r val s' q rv (((k₁.trans k₂).trans k₃).trans k) nofun

theorem strs_are {N : Addr → Prop} {h : Heap} : ∀ {vs : List V} {xs : List Value} {ys : List Str}, RVs N h vs xs → strsOf vs = some ys → PyProof.Rows.StrsAre xs ys ∧ ∀ y ∈ ys, SOk y
  | _, _, ys, .nil, e => by simp [so_nil, so_none, so_bool, so_int, so_str, so_tup, so_lst, so_ref, so_inst, so_iref, so_exc, so_dct] at e; subst e; exact ⟨.nil, by simp⟩
  | _, _, ys, .cons r1 r2, e => by
    cases r1 <;> simp [so_nil, so_none, so_bool, so_int, so_str, so_tup, so_lst, so_ref, so_inst, so_iref, so_exc, so_dct] at e
    rename_i s0 t0 ho
    obtain ⟨zs, e1, rfl⟩ := e
    obtain ⟨h1, h2⟩ := strs_are r2 e1
    exact ⟨.cons _ _ h1, by simp; exact ⟨ho, h2⟩⟩
theorem lenAll_eq : ∀ ys : List Str, lenAll ys = (ys.map (·.length)).sum
  | [] => rfl
  | y :: ys => by simp [la_nil, la_cons, lenAll_eq ys]

theorem join_mem {sep : Str} : ∀ {ys : List Str} {ch : Nat}, ch ∈ (Str.join sep ys).cps.toList → ch ∈ sep.cps.toList ∨ ∃ y ∈ ys, ch ∈ y.cps.toList
  | [], ch, h => by simp [Str.join, Str.empty] at h
  | [y], ch, h => .inr ⟨y, by simp, h⟩
  | y :: z :: r, ch, h => by
    have e : (Str.join sep (y :: z :: r)) = y ++ sep ++ Str.join sep (z :: r) := rfl
    rw [e] at h
    have e2 : (y ++ sep ++ Str.join sep (z :: r)).cps = y.cps ++ sep.cps ++ (Str.join sep (z :: r)).cps := rfl
    rw [e2] at h
    simp only [Array.toList_append, List.mem_append] at h
    rcases h with (h | h) | h
    · exact .inr ⟨y, by simp, h⟩
    · exact .inl h
    · rcases join_mem h with h | ⟨u, hu, h⟩
      · exact .inl h
      · exact .inr ⟨u, by simp at hu ⊢; exact .inr hu, h⟩

theorem se_join {a : E} {t : Str} {k : Nat} {z : Expr} {p ap pos : Pos} (F : Fx G d c A env lay Sys base st s) (hline : (ap.endLine == pos.line) = true) (ht : SOk t) (hz : noStar z = true) (ha : SE G d c a z) :
    Snd G.prog G.w G.mg A (NN st.H Sys) Sys s false (eval (.Call (.Attribute (.Constant (.str t) k p) (Str.ofString "join") ap) [z] [] pos) env) (WE (G.cx d) (.join (.str t) a) st) := by
  intro Q X K E hW hK hX
  simp only [we_0, we_1, we_2, we_3, we_4, we_5, we_6, we_7, we_8, we_9, we_10, we_11, we_12, we_13, we_14, we_15, we_16, we_17, we_18, we_19, we_20, we_21, we_22, we_23, we_24, we_25, we_26, we_27, we_28, we_29, we_30, we_31, we_32, we_33, we_34, we_35, we_36, we_37] at hW
  refine wpAny_Call_method (T := "str") (id := "str.join") rfl (by rw [starEach_cons hz]; rfl) hline PySem.F.plainAttrs_str PySem.F.slot_str_join PySem.F.type_str_join ?_
  refine wpAny_Constant_str ⟨typeIs_str _ _ _, nofun, ?_⟩
  have k₁ : Kp (FZ A Sys) s { s with toks := s.toks + 1 } := Kp.tok s _
  have F₁ := F.keeps k₁
  rw [starEach_cons hz]
  refine Calls.callWith_builtin rfl (Calls.evalArgs_plain (Calls.spliced_cons ((ha F₁).weak _ X _ E hW (fun v va s₂ h₂ r₂ k₂ _ => Calls.spliced_nil ?_) fun e s' q => hX e s' (Rz.trans k₁ q))))
  have F₂ := F₁.keeps k₂
  split at h₂
  · rename_i _ ss e1 e2
    cases e1
    simp only [Option.bind_eq_some_iff] at e2
    obtain ⟨vs, e3, e4⟩ := e2
    apply seq_val F₂.sim.objs r₂ e3; intro ad xs n hl hsz rx
    obtain ⟨h1, h2⟩ := strs_are rx e4
    have hok : (ss.map (·.length)).sum + ss.length * t.length ≤ 16777216 := by
      rw [← lenAll_eq, Nat.mul_comm]; exact h₂.1
    refine PyProof.Rows.join_list hl.isList h1 hok fun t' tk => ?_
    have ej : Txt.join t ss = Str.join t ss := StrLaws.glued_eq_join t ss
    rw [ej]
    refine hK _ _ _ h₂.2 (.str _ _ ⟨?_, fun ch hc => ?_⟩) ((k₁.trans k₂).trans (Kp.tok _ _)) nofun
    · exact Nat.le_trans (StrLaws.join_length_le t ss) hok
    · rcases join_mem hc with h | ⟨y, hy, h⟩
      · exact ht.2 ch h
      · exact (h2 y hy).2 ch h
  · exact h₂.elim
end

section
variable {G : PG} {d : Nat} {c : Sc} {A : Around} {env : Env} {lay : Nat → Option Place} {Sys : Addr → Prop} {base : Heap} {st : St} {s : Shared}

theorem intsP_inv {vs : List V} {P : List Int → Prop} (h : intsP vs P) : ∃ is, intsOf vs = some is ∧ P is := by
  unfold intsP at h
  cases e : intsOf vs with
  | none => rw [e] at h; exact False.elim h
  | some x => rw [e] at h; exact ⟨_, rfl, h⟩
theorem ints_items {N : Addr → Prop} {h : Heap} : ∀ (is : List Int) {vs : List V} {xs : List Value}, RVs N h vs xs → intsOf vs = some is → ∃ ps : List (Int × Tok), xs = ps.map (fun p => Value.int p.1 p.2) ∧ ps.map (·.1) = is := by
  intro is vs
  induction vs generalizing is with
  | nil => intro xs r e; cases r; cases e; exact ⟨[], rfl, rfl⟩
  | cons v vs ih =>
    intro xs r e
    cases r with
    | cons r1 r2 =>
      cases r1 with
      | int i t =>
        obtain ⟨js, e1, rfl⟩ := Option.map_eq_some_iff.mp e
        obtain ⟨ps, rfl, rfl⟩ := ih js r2 e1
        exact ⟨(i, t) :: ps, rfl, rfl⟩
      | _ => cases e
theorem ints_val {hsh : HFn} {H : AH} {Sys : Addr → Prop} {h : Heap} (ho : HO hsh H Sys h) {v : V} {x : Value} {W : List Int → Prop} {P : Value → Prop} (hW : seqP H v fun vs => intsP vs W) (r : RV (NN H Sys) h v x)
    (k : ∀ l (ps : List (Int × Tok)) n, IsL h l (intItems ps.toArray) n → W (ps.map (·.1)) → P (.ref l)) : P x := by
  obtain ⟨ws, e1, q⟩ := seqP_inv hW
  obtain ⟨is, e2, q⟩ := intsP_inv q
  apply seq_val ho r e1; intro l xs n hl _ rx
  obtain ⟨ps, e3, rfl⟩ := ints_items _ rx e2
  have e4 : xs = intItems ps.toArray := by apply Array.ext'; rw [e3]; simp [intItems]
  exact k l ps n (e4 ▸ hl) q
theorem two_ints {N : Addr → Prop} {h : Heap} {vs : List V} {vals : List Value} {W : Int → Int → Prop} {P : List Value → Prop} (q : int2 vs W) (r : RVs N h vs vals) (k : ∀ i j t t', W i j → P [.int i t, .int j t']) : P vals := by
  rcases vs with _ | ⟨a, _ | ⟨b, _ | ⟨e, r⟩⟩⟩
  · exact False.elim q
  · exact False.elim q
  · apply RVs.elim r; intro x xs r1 r2
    apply one_arg r2; intro y r3
    apply int_val q r1; intro i t q
    apply int_val q r3; intro j t' q
    exact k i j t t' q
  · exact False.elim q
theorem sum1_val {N : Addr → Prop} {h : Heap} {H : AH} {vs : List V} {vals : List Value} {W : Int → Prop} {P : List Value → Prop} (q : sum1 H vs W) (r : RVs N h vs vals) (k : ∀ u x, RV N h u x → (seqP H u fun vs => intsP vs fun is => W is.sum) → P [x]) : P vals := by
  rcases vs with _ | ⟨a, _ | ⟨b, r⟩⟩
  · exact False.elim q
  · apply one_arg r; intro x r1; exact k a x r1 q
  · exact False.elim q

theorem se_sum {a : E} {y : Str} {z : Expr} {p pos : Pos} (F : Fx G d c A env lay Sys base st s) (hg : isGlob c y "sum" = true) (hz : noStar z = true) (ha : SE G d c a z) :
    Snd G.prog G.w G.mg A (NN st.H Sys) Sys s false (eval (.Call (.Name y p) [z] [] pos) env) (WE (G.cx d) (.sum a) st) := by
  intro Q X K E hW hK hX
  refine ev_call_b (es := .cons a .nil) (X := X) (Q := fun vs => sum1 st.H vs fun n => Q (.int n)) F hg (by decide) rfl (ses_cons hz ha ses_nil) hW ?_ hX
  intro vs vals s₁ q r k
  apply sum1_val q r; intro u x r1 q
  apply ints_val (F.keeps k).sim.objs q r1; intro l ps n hl q
  refine sum_intListG (F.cold (isGlob_cold hg rfl)) (IsL.isList hl) fun h' tk t' hk => ?_
  have e5 : preSum (numAt ps.toArray) ps.toArray.size = (ps.map (·.1)).sum := by rw [preSum_eq, List.take_of_length_le (by simp)]
  rw [e5]
  exact hK _ _ _ q (.int _ _) (k.trans (Kp.of hk)) nofun
theorem se_max2 {a b : E} {y : Str} {z u : Expr} {p pos : Pos} (F : Fx G d c A env lay Sys base st s) (hg : isGlob c y "max" = true) (hz : noStar z = true) (hu : noStar u = true) (ha : SE G d c a z) (hb : SE G d c b u) :
    Snd G.prog G.w G.mg A (NN st.H Sys) Sys s false (eval (.Call (.Name y p) [z, u] [] pos) env) (WE (G.cx d) (.max2 a b) st) := by
  intro Q X K E hW hK hX
  refine ev_call_b (es := .cons a (.cons b .nil)) (X := X) (Q := fun vs => int2 vs fun i j => Q (.int (if j > i then j else i))) F hg (by decide) rfl (ses_cons hz ha (ses_cons hu hb ses_nil)) hW ?_ hX
  intro vs vals s₁ q r k
  apply two_ints q r; intro i j t1 t2 q
  refine max_two_ints (F.cold (isGlob_cold hg rfl)) fun h' tk hk => ?_
  have e : (if j > i then Value.int j t2 else Value.int i t1) = .int (if j > i then j else i) (if j > i then t2 else t1) := by split <;> rfl
  rw [e]
  exact hK _ _ _ q (.int _ _) (k.trans (Kp.of hk)) nofun
theorem se_min2 {a b : E} {y : Str} {z u : Expr} {p pos : Pos} (F : Fx G d c A env lay Sys base st s) (hg : isGlob c y "min" = true) (hz : noStar z = true) (hu : noStar u = true) (ha : SE G d c a z) (hb : SE G d c b u) :
    Snd G.prog G.w G.mg A (NN st.H Sys) Sys s false (eval (.Call (.Name y p) [z, u] [] pos) env) (WE (G.cx d) (.min2 a b) st) := by
  intro Q X K E hW hK hX
  refine ev_call_b (es := .cons a (.cons b .nil)) (X := X) (Q := fun vs => int2 vs fun i j => Q (.int (if j < i then j else i))) F hg (by decide) rfl (ses_cons hz ha (ses_cons hu hb ses_nil)) hW ?_ hX
  intro vs vals s₁ q r k
  apply two_ints q r; intro i j t1 t2 q
  refine min_two_ints (F.cold (isGlob_cold hg rfl)) fun h' tk hk => ?_
  have e : (if j < i then Value.int j t2 else Value.int i t1) = .int (if j < i then j else i) (if j < i then t2 else t1) := by split <;> rfl
  rw [e]
  exact hK _ _ _ q (.int _ _) (k.trans (Kp.of hk)) nofun
end

section
variable {prog : Program} {w : World} {A : Around} {R : Result → Shared → Prop} {I : Addr} {fp wr : List Addr} {n : Nat} {P : Nat → Value → Prop} {St : Nat → Heap → Prop}

end

section
variable {prog : Program} {w : World} {A : Around} {E : Value → Shared → Prop} {s : Shared}

end

section
variable {G : PG} {d : Nat} {c : Sc} {A : Around} {env : Env} {lay : Nat → Option Place} {Sys : Addr → Prop} {base : Heap} {st : St} {s : Shared}

end

end Mine
end

section
set_option autoImplicit false
namespace Mine
open PySem

/-- only these places of the frame are turned -/
noncomputable def Tc (is : List Nat) (lay : Nat → Option Place) (h h' : Heap) : Prop := ∀ b o, (∀ i ∈ is, ∀ p, lay i = some p → b ≠ p.addr) → h.get? b = some o → h'.get? b = some o
noncomputable def Tg.idx : Tg → List Nat
  | .var i => [i]
  | .tup is => is

section
variable {prog : Program} {w : World} {A : Around} {E : Value → Shared → Prop} {hsh : HFn} {T : Heap → Prop} {lay : Nat → Option Place} {Sys Z : Addr → Prop} {base : Heap} {st : St} {s : Shared} {env : Env} {c : Sc}

theorem chkN_eq {i : Nat} {tg : Expr} (h : chkN c i tg = true) : ∃ x pos, tg = .Name x pos ∧ c.σ.lookup x = some i ∧ (c.names.lookup x = some .local ∨ c.names.lookup x = some .cell) := by
  apply onName_elim h; clear h; intro x pos h
  simp only [Bool.and_eq_true, isVar, canStore, decide_eq_true_eq, Bool.or_eq_true] at h
  exact ⟨x, pos, rfl, h.1.1, h.2⟩

theorem st_one {M : Model} {i : Nat} {tg : Expr} {v : V} {val : Value} {Q : Unit → Shared → Prop} (O : EnvOk env c.names c.σ lay) (S : Sim hsh T lay Sys Z base st s.heap) (ht : chkN c i tg = true) (hi : i < st.ρ.length) (hr : RV (NN st.H Sys) s.heap v val)
    (hQ : ∀ h' tk, Sim hsh T lay Sys Z base { st with ρ := st.ρ.set i (some v) } h' → Tc [i] lay s.heap h' → Q () { s with heap := h', toks := tk }) : wpAny M A (assign tg env val) Q E s := by
  obtain ⟨x, pos, rfl, h1, h2⟩ := chkN_eq ht
  refine wpAny_assign_Name (st_var O S h1 hi (fun e => ?_) hr fun h' t p hp hs hsim => hQ h' t hsim fun b o nb e => (hs.2 b (nb i (by simp) p hp)).trans e)
  rcases h2 with h2 | h2
  · rw [O.lc x h2] at e; cases e
  · rw [O.ce x h2] at e; cases e

theorem setAll_len : ∀ {is : List Nat} {vs : List V} {ρ ρ' : List (Option V)}, setAll is vs ρ = some ρ' → is.length = vs.length ∧ ρ'.length = ρ.length
  | [], [], _, _, h => by simp [sa_nil, sa_cons, sa_l, sa_r] at h; subst h; exact ⟨rfl, rfl⟩
  | [], _ :: _, _, _, h => by simp [sa_nil, sa_cons, sa_l, sa_r] at h
  | _ :: _, [], _, _, h => by simp [sa_nil, sa_cons, sa_l, sa_r] at h
  | i :: is, v :: vs, ρ, ρ', h => by
    simp only [sa_nil, sa_cons, sa_l, sa_r] at h
    split at h
    · have := setAll_len h; simp at this ⊢; exact this
    · cases h
theorem bindT_len {t : Tg} {v : V} {ρ ρ' : List (Option V)} (h : bindT t v ρ = some ρ') : ρ'.length = ρ.length := by
  unfold bindT at h
  split at h
  · unfold putV at h
    split at h
    · cases h; simp
    · cases h
  · exact (setAll_len h).2
  · cases h

theorem st_tg {t : Tg} {tg : Expr} {v : V} {val : Value} {ρ' : List (Option V)} {Q : Unit → Shared → Prop} (hh : c.hot = false → A.handled = none) (O : EnvOk env c.names c.σ lay) (S : Sim hsh T lay Sys Z base st s.heap) (ht : chkTg c t tg = true) (hb : bindT t v st.ρ = some ρ')
    (hr : RV (NN st.H Sys) s.heap v val) (hQ : ∀ h' tk, Sim hsh T lay Sys Z base { st with ρ := ρ' } h' → Tc t.idx lay s.heap h' → Q () { s with heap := h', toks := tk }) : wpAny (model prog w) A (assign tg env val) Q E s := by
  cases t with
  | var i =>
    simp only [bd_var, bd_tup, bd_none, bd_bool, bd_int, bd_str, bd_lst, bd_ref, bd_inst, bd_iref, bd_exc, bd_dct] at hb
    split at hb
    · rename_i hi
      cases hb
      exact st_one O S ht hi hr hQ
    · cases hb
  | tup is => exact ff ht
end

/-- an inner frame: more things off limits -/
theorem Sim.enter {hsh : HFn} {T : Heap → Prop} {lay : Nat → Option Place} {Sys Z New : Addr → Prop} {base : Heap} {st : St} {h h' : Heap} (S : Sim hsh T lay Sys Z base st h) (k : HW Z h h') (hn : ∀ b, New b → h.get? b = none) (hn' : ∀ b, New b → h'.get? b ≠ none) :
    Sim hsh T lay (fun a => Sys a ∨ New a) Z base st h' where
  keep := S.keep.trans k
  zs := fun b q => .inl (S.zs b q)
  top := let ⟨b0, t, k0, n⟩ := S.top; ⟨b0, t, k0, fun a q => q.elim (fun q => q.elim (fun q => n a (.inl q)) fun q => (HW.of (Z := Sys) k0).ext (S.keep.ext (hn a q))) fun q => n a (.inr q)⟩
  vals := fun i v p a b => by
    obtain ⟨val, x, y⟩ := S.vals i v p a b
    refine ⟨val, x.kz k, y.gen (fun b q => ?_) fun b o nb e => (k b o e).1 fun q => nb (.inr (S.zs b q))⟩
    rcases q with q | q | q
    · exact .inl (.inl q)
    · exact .inl (.inr q)
    · exact .inr (hn b q)
  ok := fun i p a => (S.ok i p a).kz k
  inj := S.inj
  sys := fun i p a => ⟨.inl (S.sys i p a).1, (S.sys i p a).2⟩
  objs := fun a o e => (S.objs a o e).gen (fun b q => by
    rcases q with q | q | q
    · exact .inl (.inl q)
    · exact .inl (.inr q)
    · exact .inr (hn b q)) (fun b o nb e => (k b o e).1 fun q => nb (.inr (S.zs b q))) (fun o' e' => (k a o' e').1 fun q => by rw [S.dis a (S.zs a q)] at e; cases e)
  own := S.own
  live := fun a q e => by
    rcases q with q | q
    · exact S.live a q (k.ext e)
    · exact hn' a q e
  ent := S.ent
  dis := fun a q => q.elim (S.dis a) fun q => S.fresh (hn a q)

theorem nodup_inj {α : Type} {l : List α} (h : l.Nodup) {i j : Nat} (hi : i < l.length) (hj : j < l.length) (e : l[i] = l[j]) : i = j := by
  have h' := List.pairwise_iff_getElem.mp h
  rcases Nat.lt_trichotomy i j with h1 | h1 | h1
  · exact absurd e (h' i j hi hj h1)
  · exact h1
  · exact absurd e.symm (h' j i hj hi h1)

/-- the comprehension's own places -/
noncomputable def layC (used : Nat) (C : Addr) (xs : List Str) (lay : Nat → Option Place) : Nat → Option Place := fun i => if i < used then lay i else (xs[i - used]?).map (Place.loc C)

noncomputable def wipe (used : Nat) : List (Option V) → List (Option V) := fun ρ => ρ.take used ++ List.replicate (ρ.length - used) none
theorem wipe_length (u : Nat) (ρ : List (Option V)) : (wipe u ρ).length = ρ.length := by simp [wipe]; omega
theorem wipe_get {u i : Nat} {ρ : List (Option V)} {v : V} (h : (wipe u ρ)[i]? = some (some v)) : i < u ∧ ρ[i]? = some (some v) := by
  unfold wipe at h
  rw [List.getElem?_append] at h
  split at h
  · rename_i hi
    simp at hi
    rw [List.getElem?_take, if_pos (by omega)] at h
    exact ⟨by omega, h⟩
  · rw [List.getElem?_replicate] at h
    split at h <;> simp at h

theorem Sim.comp {hsh : HFn} {T : Heap → Prop} {lay : Nat → Option Place} {Sys Z : Addr → Prop} {base : Heap} {st : St} {h : Heap} {used : Nat} {C : Addr} {xs : List Str} {m : Str → Option Value} (S : Sim hsh T lay Sys Z base st h) (hus : ∀ i p, lay i = some p → i < used)
    (hC : Sys C) (hCl : ∀ i p, lay i = some p → p.addr ≠ C) (hb : base.get? C = none) (hH : st.H C = none) (hm : h.Ns C m) (hnd : xs.Nodup) : Sim hsh T (layC used C xs lay) Sys Z base { st with ρ := wipe used st.ρ } h where
  keep := S.keep
  zs := S.zs
  top := S.top
  vals := fun i v p a b => by
    obtain ⟨h1, h2⟩ := wipe_get a
    simp only [layC, if_pos h1] at b
    exact S.vals i v p h2 b
  ok := fun i p a => by
    simp only [layC] at a
    split at a
    · exact S.ok i p a
    · simp only [Option.map_eq_some_iff] at a
      obtain ⟨x, _, rfl⟩ := a
      exact ⟨m, hm⟩
  inj := fun i j p a b => by
    simp only [layC] at a b
    split at a <;> split at b
    · exact S.inj i j p a b
    · simp only [Option.map_eq_some_iff] at b
      obtain ⟨x, _, rfl⟩ := b
      exact absurd rfl (hCl i _ a)
    · simp only [Option.map_eq_some_iff] at a
      obtain ⟨x, _, rfl⟩ := a
      exact absurd rfl (hCl j _ b)
    · simp only [Option.map_eq_some_iff] at a b
      obtain ⟨x, ha, rfl⟩ := a
      obtain ⟨y, hb', e⟩ := b
      cases e
      obtain ⟨l1, e1⟩ := List.getElem?_eq_some_iff.mp ha
      obtain ⟨l2, e2⟩ := List.getElem?_eq_some_iff.mp hb'
      have : i - used = j - used := nodup_inj hnd l1 l2 (e1.trans e2.symm)
      omega
  sys := fun i p a => by
    simp only [layC] at a
    split at a
    · exact S.sys i p a
    · simp only [Option.map_eq_some_iff] at a
      obtain ⟨x, _, rfl⟩ := a
      exact ⟨hC, hb, hH⟩
  objs := S.objs
  own := S.own
  live := S.live
  ent := S.ent
  dis := S.dis

/-- forgetting what the comprehension's places hold -/
theorem Sim.forget {hsh : HFn} {T : Heap → Prop} {lay : Nat → Option Place} {Sys Z : Addr → Prop} {base : Heap} {st : St} {h : Heap} {ρ' : List (Option V)} (S : Sim hsh T lay Sys Z base st h) (hv : ∀ (i : Nat) (v : V) (p : Place), lay i = some p → ρ'[i]? = some (some v) → st.ρ[i]? = some (some v)) :
    Sim hsh T lay Sys Z base { st with ρ := ρ' } h where
  keep := S.keep
  zs := S.zs
  top := S.top
  vals := fun i v p a b => S.vals i v p (hv i v p b a) b
  ok := S.ok
  inj := S.inj
  sys := S.sys
  objs := S.objs
  own := S.own
  live := S.live
  ent := S.ent
  dis := S.dis

end Mine
end

section
set_option autoImplicit false
namespace Mine
open PySem

section
variable {prog : Program} {w : World} {A : Around} {E : Value → Shared → Prop} {R : Result → Shared → Prop} {s : Shared}

theorem compLoop_gen {elt target iter : Expr} {ifs : List Expr} {scope : Scope} {pos : Pos} {it acc : Value} {env : Env} (I : Nat → Shared → Prop)
    (turn : ∀ n s, I n s → wpAny (model prog w) A (pyNext it) (fun r s₁ => match r with
      | none => R (.ok .next) s₁
      | some v => wpAny (model prog w) A (letOwnedTupleGo target it v) (fun _ s₁' => wpAny (model prog w) A (assign target env v) (fun _ s₂ =>
          wpAny (model prog w) A (forIn ifs true fun c r => if r = true then do let ok ← isTrue c env (eval c env); pure (ForInStep.yield ok) else pure (ForInStep.yield r)) (fun ok s₃ =>
            if ok = true then wpAny (model prog w) A (eval elt env) (fun x s₄ =>
              wpAny (model prog w) A (call (.builtin "list.append") [acc, x]) (fun _ s₅ => ∃ m, m < n ∧ I m s₅) (notedBy (model prog w) A env fun e s' => R (.error e) s') s₄) (notedBy (model prog w) A env fun e s' => R (.error e) s') s₃
            else ∃ m, m < n ∧ I m s₃) (notedBy (model prog w) A env fun e s' => R (.error e) s') s₂) (notedBy (model prog w) A env fun e s' => R (.error e) s') s₁') (notedBy (model prog w) A env fun e s' => R (.error e) s') s₁) (notedBy (model prog w) A env fun e s' => R (.error e) s') s)
    (n : Nat) (h : I n s) : codeAny (model prog w) A (.compLoop (.ListComp elt [⟨target, iter, ifs, 0⟩] scope pos) 0 it acc env) R s := by
  refine codeAny_loop rfl I (fun n s hI => ?_) n h
  show wpAny _ A ((compTurn (.ListComp elt [⟨target, iter, ifs, 0⟩] scope pos) 0 it acc env).onRaise (fun x => do noteFrame x env; theTreesLotGoes x)) _ _ s
  refine wpAny_noted ?_
  rw [compTurn_list]
  refine wpAny_bind (wpAny_standAt (wpAny_bind (wpAny_mono (turn n s hI) (fun r s₁ h₁ => ?_) fun _ _ h' => h')))
  cases r with
  | none => exact wpAny_pure h₁
  | some v =>
    refine wpAny_bind (wpAny_mono h₁ (fun _ s₁' h₁' => ?_) fun _ _ h' => h')
    refine wpAny_bind (wpAny_mono h₁' (fun _ s₂ h₂ => wpAny_bind (wpAny_mono h₂ (fun ok s₃ h₃ => ?_) fun _ _ h' => h')) fun _ _ h' => h')
    cases ok with
    | false => exact wpAny_pure ⟨rfl, h₃⟩
    | true =>
      exact wpAny_bind (wpAny_bind (wpAny_mono h₃ (fun x s₄ h₄ => wpAny_bind (wpAny_mono h₄ (fun _ s₅ h₅ => wpAny_pure (wpAny_pure ⟨rfl, h₅⟩)) fun _ _ h' => h')) fun _ _ h' => h'))

theorem append_call {l : Addr} {items : Array Value} {n : Nat} {v : Value} {Q : Value → Shared → Prop} (hl : IsL s.heap l items n) (hz : items.size ≤ sizeLine)
    (h : Q .none { s with heap := s.heap.update l (Obj.mapSeq fun xs => xs.push v) }) : wpAny (model prog w) A (call (.builtin "list.append") [.ref l, v]) Q E s :=
  call_meets F.slot_list_append ⟨_, hl, rfl⟩ F.entry_list_append (F.args_list_append_2 _ _) (list_append l items n v hz) ⟨hl, h⟩
end

/-- what a comprehension's free names stand in -/
theorem closure_ok {scope : Scope} {env : Env} (h : ∀ p ∈ scope.names, p.2 = .free → ∃ a, env.cells.lookup p.1 = some a) :
    ∃ cl, closureFor scope env = pure cl ∧ ∀ p ∈ scope.names, p.2 = .free → ∃ a, cl.lookup p.1 = some a ∧ env.cells.lookup p.1 = some a := by
  have key : ∀ (names : List (Str × NameKind)) (acc : List (Str × Addr)), (∀ p ∈ names, p.2 = .free → ∃ a, env.cells.lookup p.1 = some a) → (∀ x a, acc.lookup x = some a → env.cells.lookup x = some a) →
      ∃ cl, (forIn names acc (fun (p : Str × NameKind) cs => do
        if p.2 == .free then
          let a ← cellOf env p.1
          pure (ForInStep.yield ((p.1, a) :: cs))
        else pure (ForInStep.yield cs)) : Sem (List (Str × Addr))) = pure cl ∧ (∀ x a, cl.lookup x = some a → env.cells.lookup x = some a) ∧ (∀ x, (acc.lookup x).isSome → (cl.lookup x).isSome) ∧ (∀ p ∈ names, p.2 = .free → (cl.lookup p.1).isSome) := by
    intro names
    induction names with
    | nil => intro acc _ ha; exact ⟨acc, rfl, ha, fun _ e => e, by simp⟩
    | cons p r ih =>
      intro acc hf ha
      obtain ⟨n, k⟩ := p
      by_cases hk : k = .free
      · subst hk
        obtain ⟨a, hc⟩ := hf (n, .free) (by simp) rfl
        obtain ⟨cl, e, h1, h2, h3⟩ := ih ((n, a) :: acc) (fun q hq => hf q (List.mem_cons_of_mem _ hq)) (fun x b hx => by
          simp only [List.lookup_cons] at hx
          split at hx
          · rename_i hxn
            have : x = n := by simpa using hxn
            subst this; cases hx; exact hc
          · exact ha x b hx)
        refine ⟨cl, ?_, h1, fun x hx => h2 x ?_, fun q hq hqf => ?_⟩
        · rw [List.forIn_cons]
          simp only [beq_self_eq_true, if_true, cellOf, hc, pure_bind]
          exact e
        · simp only [List.lookup_cons]; split
          · rfl
          · exact hx
        · rcases List.mem_cons.mp hq with rfl | hq
          · exact h2 n (by simp)
          · exact h3 q hq hqf
      · obtain ⟨cl, e, h1, h2, h3⟩ := ih acc (fun q hq => hf q (List.mem_cons_of_mem _ hq)) ha
        refine ⟨cl, ?_, h1, h2, fun q hq hqf => ?_⟩
        · rw [List.forIn_cons]
          have : (k == NameKind.free) = false := by simpa using hk
          simp only [this, Bool.false_eq_true, if_false, pure_bind]
          exact e
        · rcases List.mem_cons.mp hq with rfl | hq
          · exact absurd hqf hk
          · exact h3 q hq hqf
  obtain ⟨cl, e, h1, _, h3⟩ := key scope.names [] h (by simp)
  refine ⟨cl, ?_, fun p hp hf => ?_⟩
  · simp only [closureFor]
    exact (congrArg (· >>= _) e).trans rfl
  · have := h3 p hp hf
    cases hc : cl.lookup p.1 with
    | none => rw [hc] at this; cases this
    | some a => exact ⟨a, rfl, h1 _ _ hc⟩

noncomputable def rl (env : Env) (p : Str × NameKind) : Str × NameKind := (p.1, if (p.2 == .free && env.scope.kind == .function && env.kindOf p.1 == some .cell) then .cell else p.2)
theorem relabel_names (scope : Scope) (env : Env) : (relabel scope env).names = scope.names.map (rl env) := by
  simp only [relabel]
  refine List.map_congr_left fun p _ => ?_
  obtain ⟨n, k⟩ := p
  simp only [rl]
  split <;> rfl
theorem lookup_rl {env : Env} : ∀ {names : List (Str × NameKind)} {x : Str} {k : NameKind}, names.lookup x = some k → ∃ n, (x == n) = true ∧ (names.map (rl env)).lookup x = some (rl env (n, k)).2
  | [], _, _, h => by simp at h
  | (n, k') :: r, x, k, h => by
    rw [List.map_cons]
    have e : rl env (n, k') = (n, (rl env (n, k')).2) := rfl
    rw [e]
    simp only [List.lookup_cons] at h ⊢
    cases hx : x == n with
    | true => rw [hx] at h; simp only at h ⊢; cases h; exact ⟨n, hx, rfl⟩
    | false => rw [hx] at h; simp only at h ⊢; exact lookup_rl h
theorem lookup_relabel {scope : Scope} {env : Env} {x : Str} {k : NameKind} (h : scope.names.lookup x = some k) (hk : k ≠ .free) : (relabel scope env).names.lookup x = some k := by
  rw [relabel_names]
  obtain ⟨n, _, e⟩ := lookup_rl (env := env) h
  rw [e]
  have : (k == NameKind.free) = false := by simpa using hk
  simp [rl, this]
theorem lookup_relabel_free {scope : Scope} {env : Env} {x : Str} (h : scope.names.lookup x = some .free) : (relabel scope env).names.lookup x = some .cell ∨ (relabel scope env).names.lookup x = some .free := by
  rw [relabel_names]
  obtain ⟨n, _, e⟩ := lookup_rl (env := env) h
  rw [e]
  simp only [rl]
  split
  · exact .inl rfl
  · exact .inr rfl

end Mine
end

section
set_option autoImplicit false
namespace Mine
open PySem

theorem mem_lookup {β : Type} : ∀ {l : List (Str × β)} {x : Str} {k : β}, l.lookup x = some k → (x, k) ∈ l
  | [], _, _, h => by simp at h
  | (n, k') :: r, x, k, h => by
    simp only [List.lookup_cons] at h
    cases hx : x == n with
    | true =>
      rw [hx] at h; simp only at h; cases h
      have : x = n := by simpa using hx
      subst this; simp
    | false => rw [hx] at h; simp only at h; exact List.mem_cons_of_mem _ (mem_lookup h)

theorem lookup_zip : ∀ {xs : List Str} {u : Nat} {x : Str} {i : Nat}, (xs.zip (List.range' u xs.length)).lookup x = some i → ∃ j, xs[j]? = some x ∧ i = u + j
  | [], _, _, _, h => by simp at h
  | y :: ys, u, x, i, h => by
    simp only [List.length_cons, List.range'_succ, List.zip_cons_cons, List.lookup_cons] at h
    cases hx : x == y with
    | true =>
      rw [hx] at h; simp only at h; cases h
      have : x = y := by simpa using hx
      subst this; exact ⟨0, rfl, rfl⟩
    | false =>
      rw [hx] at h; simp only at h
      obtain ⟨j, h1, h2⟩ := lookup_zip h
      exact ⟨j + 1, by simpa using h1, by omega⟩
theorem lookup_filter {q : Str → Bool} : ∀ {l : List (Str × Nat)} {x : Str} {i : Nat}, (l.filter fun p => q p.1).lookup x = some i → q x = true ∧ l.lookup x = some i
  | [], _, _, h => by simp at h
  | (n, k) :: r, x, i, h => by
    rw [List.filter_cons] at h
    split at h
    · rename_i hq
      simp only [List.lookup_cons] at h ⊢
      cases hx : x == n with
      | true =>
        rw [hx] at h; simp only at h ⊢
        have : x = n := by simpa using hx
        subst this; exact ⟨hq, h⟩
      | false => rw [hx] at h; simp only at h ⊢; exact lookup_filter h
    · rename_i hq
      obtain ⟨h1, h2⟩ := lookup_filter h
      refine ⟨h1, ?_⟩
      simp only [List.lookup_cons]
      cases hx : x == n with
      | true =>
        have : x = n := by simpa using hx
        subst this; exact absurd h1 hq
      | false => exact h2

structure TableOk (c : Sc) (xs : List Str) (sc : Scope) : Prop where
  kind : sc.kind = .function
  loc : ∀ x ∈ xs, sc.names.lookup x = some .local
  nd : xs.Nodup
  names : ∀ p ∈ sc.names, (p.2 = .local) ∨ (p.2 = .free ∧ sc.names.lookup p.1 = some .free ∧ (∃ i, c.σ.lookup p.1 = some i) ∧ (c.names.lookup p.1 = some .cell ∨ c.names.lookup p.1 = some .free) ∧ (p.1 == ("__classdict__" : Str)) = false) ∨ p.2 = .globalImplicit
  nodup : (sc.names.map (·.1)).Nodup
  dead : c.dead = false
theorem tableOk_eq {c : Sc} {xs : List Str} {sc : Scope} (h : tableOk c xs sc = true) : TableOk c xs sc := by
  unfold tableOk at h
  simp only [Bool.and_eq_true, decide_eq_true_eq, List.all_eq_true] at h
  obtain ⟨⟨⟨⟨⟨h1, h2⟩, h3⟩, h4⟩, h5⟩, h6⟩ := h
  refine ⟨h1, fun x hx => (h2 x hx).1, h3, fun p hp => ?_, h5, by simpa using h6⟩
  have := h4 p hp
  split at this
  · rename_i e; exact .inl e
  · rename_i e
    simp only [Bool.and_eq_true, Bool.or_eq_true, decide_eq_true_eq, Bool.not_eq_true'] at this
    exact .inr (.inl ⟨e, this.1.1.1, Option.isSome_iff_exists.mp this.1.1.2, this.1.2, this.2⟩)
  · rename_i e; exact .inr (.inr e)
  · cases this
theorem nodup_lookup {β : Type} : ∀ {l : List (Str × β)} {p : Str × β}, (l.map (·.1)).Nodup → p ∈ l → l.lookup p.1 = some p.2
  | [], _, _, h => by simp at h
  | (n, k) :: r, p, hn, h => by
    simp only [List.map_cons, List.nodup_cons] at hn
    rcases List.mem_cons.mp h with rfl | h
    · simp
    · simp only [List.lookup_cons]
      cases hx : p.1 == n with
      | true =>
        have : p.1 = n := by simpa using hx
        exact absurd (this ▸ List.mem_map.mpr ⟨p, h, rfl⟩) hn.1
      | false => exact nodup_lookup hn.2 h

theorem env_comp {env : Env} {c : Sc} {lay : Nat → Option Place} {xs : List Str} {sc : Scope} {cl : List (Str × Addr)} {C : Addr} (O : EnvOk env c.names c.σ lay) (hus : ∀ i p, lay i = some p → i < c.used) (ht : TableOk c xs sc)
    (hcl : ∀ p ∈ sc.names, p.2 = .free → ∃ a, cl.lookup p.1 = some a ∧ env.cells.lookup p.1 = some a) : EnvOk (compEnvC sc cl C env) (inner c xs sc.names).names (inner c xs sc.names).σ (layC c.used C xs lay) where
  kind := ht.kind
  glob := O.glob
  blt := O.blt
  gl := fun x h => lookup_relabel h (by simp)
  lc := fun x h => lookup_relabel h (by simp)
  ce := fun x h => lookup_relabel h (by simp)
  fr := fun x h => lookup_relabel_free h
  vars := fun x i h => by
    have h : ((xs.zip (List.range' c.used xs.length)) ++ c.σ.filter (fun p => decide (sc.names.lookup p.1 = some .free))).lookup x = some i := h
    rw [List.lookup_append] at h
    cases hz : (xs.zip (List.range' c.used xs.length)).lookup x with
    | some j =>
      rw [hz] at h; simp at h; subst h
      obtain ⟨k, hk, rfl⟩ := lookup_zip hz
      refine ⟨.loc C x, ?_, .inl ⟨lookup_relabel (ht.loc x (List.mem_of_getElem? hk)) (by simp), rfl⟩⟩
      unfold layC
      rw [if_neg (by omega), show c.used + k - c.used = k by omega, hk]; rfl
    | none =>
      rw [hz] at h; simp only [Option.none_or] at h
      obtain ⟨hq, hσ⟩ := lookup_filter (q := fun y => decide (sc.names.lookup y = some .free)) h
      have hq : sc.names.lookup x = some .free := by simpa using hq
      have hm := mem_lookup hq
      obtain ⟨a, h1, h2⟩ := hcl _ hm rfl
      have hk : (x == ("__classdict__" : Str)) = false ∧ (env.kindOf x = some .cell ∨ env.kindOf x = some .free) := by
        rcases ht.names _ hm with e | ⟨_, _, _, e, e'⟩ | e
        · cases e
        · exact ⟨e', e.elim (fun q => .inl (O.ce x q)) (O.fr x)⟩
        · cases e
      obtain ⟨p, hp, hc⟩ := O.vars x i hσ
      have hlt := hus i p hp
      rcases hc with ⟨hl, _⟩ | ⟨_, _, c', hc', rfl⟩
      · rcases hk.2 with q | q <;> rw [hl] at q <;> cases q
      · rw [h2] at hc'; cases hc'
        exact ⟨.cell a, by unfold layC; rw [if_pos hlt]; exact hp, .inr ⟨lookup_relabel_free hq, hk.1, a, h1, rfl⟩⟩

theorem bindT_agree {t : Tg} {u : Nat} {xs : List Str} {v : V} {ρ ρ₁ ρ' ρ₁' : List (Option V)} (ht : tgIs u t xs = true) (hl : ρ.length = ρ₁.length) (hag : ∀ i, i < u → ρ[i]? = ρ₁[i]?) (hb : bindT t v ρ = some ρ') (hb₁ : bindT t v ρ₁ = some ρ₁') :
    ∀ i, i < u + xs.length → ρ'[i]? = ρ₁'[i]? := by
  intro i hi
  cases t with
  | var iv =>
    obtain ⟨k1, k2⟩ := (Bool.and_eq_true _ _).mp ht
    rw [eq_of_beq k1] at hb hb₁
    rw [eq_of_beq k2] at hi
    simp only [bd_var, bd_tup, bd_none, bd_bool, bd_int, bd_str, bd_lst, bd_ref, bd_inst, bd_iref, bd_exc, bd_dct] at hb hb₁
    split at hb
    · rename_i h1
      rw [if_pos (by omega)] at hb₁
      cases hb; cases hb₁
      by_cases e : i = u
      · subst e; rw [List.getElem?_set_self h1, List.getElem?_set_self (by omega)]
      · rw [List.getElem?_set_ne (Ne.symm e), List.getElem?_set_ne (Ne.symm e)]; exact hag i (by omega)
    · cases hb
  | tup is => exact ff ht
theorem bindT_ok {t : Tg} {u : Nat} {xs : List Str} {v : V} {ρ ρ₁ ρ' : List (Option V)} (ht : tgIs u t xs = true) (hl : ρ.length = ρ₁.length) (hb : bindT t v ρ = some ρ') : ∃ ρ₁', bindT t v ρ₁ = some ρ₁' := by
  cases t with
  | var i =>
    simp only [bd_var, bd_tup, bd_none, bd_bool, bd_int, bd_str, bd_lst, bd_ref, bd_inst, bd_iref, bd_exc, bd_dct] at hb ⊢
    split at hb
    · rw [if_pos (by omega)]; exact ⟨_, rfl⟩
    · cases hb
  | tup is => exact ff ht
theorem wipe_lo {u i : Nat} {ρ : List (Option V)} (h : i < u) : (wipe u ρ)[i]? = ρ[i]? := by
  unfold wipe
  rcases Nat.lt_or_ge i ρ.length with hi | hi
  · rw [List.getElem?_append_left (by simp; omega), List.getElem?_take, if_pos h]
  · rw [List.getElem?_eq_none hi, List.getElem?_eq_none (by simp; omega)]

end Mine
end

section
set_option autoImplicit false
namespace Mine
open PySem

theorem lookup_zip_some {β : Type} : ∀ {names : List Str} {vals : List β} {x : Str}, names.length = vals.length → x ∈ names → ((names.zip vals).lookup x).isSome
  | [], _, _, _, h => by simp at h
  | _ :: _, [], _, hl, _ => by simp at hl
  | n :: ns, v :: vs, x, hl, h => by
    simp only [List.zip_cons_cons, List.lookup_cons]
    cases hx : x == n with
    | true => rfl
    | false =>
      have hne : x ≠ n := by simpa using hx
      exact lookup_zip_some (by simpa using hl) ((List.mem_cons.mp h).resolve_left hne)

theorem fm_zip {β : Type} : ∀ {names : List Str} {vals : List β}, names.length = vals.length → names.Nodup → names.filterMap (fun n => ((names.zip vals).lookup n).map (fun v => (n, v))) = names.zip vals := by
  have key : ∀ (names : List Str) (vals : List β) (full : List (Str × β)), names.length = vals.length → names.Nodup → (∀ n v, (n, v) ∈ names.zip vals → full.lookup n = some v) → names.filterMap (fun n => (full.lookup n).map (fun v => (n, v))) = names.zip vals := by
    intro names
    induction names with
    | nil => intro vals full hl _ _; rfl
    | cons n ns ih =>
      intro vals full hl hn hf
      cases vals with
      | nil => simp at hl
      | cons v vs =>
        rw [List.nodup_cons] at hn
        rw [List.filterMap_cons, hf n v (by simp)]
        simp only [Option.map_some, List.zip_cons_cons]
        rw [ih vs full (by simpa using hl) hn.2 fun m w hm => hf m w (by simp [hm])]
  intro names vals hl hn
  refine key names vals _ hl hn fun n v hm => ?_
  have hnz : ((names.zip vals).map (·.1)).Nodup := by
    have e : (names.zip vals).map (·.1) = names := by rw [List.map_fst_zip]; omega
    rw [e]; exact hn
  exact nodup_lookup hnz hm

theorem bp_key {nm qn : Str} {ar : List Arg} {kd : List (Option Expr)} {df : List Expr} {body : FuncBody} {sc : Scope} {gl : Addr} {cl : List (Str × Addr)} {kdv doc pm : Value} {an : Option Addr} {code ct : Value} {bl : Addr} {vals : List Value}
   (h1 : (decide (vals.length > (ar.map Arg.arg).length) && true) = false) (h2 : ((((ar.map Arg.arg).take ((ar.map Arg.arg).length)).filter fun n => (((ar.map Arg.arg).zip vals).lookup n).isNone).isEmpty) = true) :
   bindArgs ⟨nm, qn, ⟨[], ar, none, [], kd, none, df⟩, body, sc, gl, cl, .none, kdv, doc, pm, an, code, ct, bl⟩ ⟨vals, []⟩ = pure ((ar.map Arg.arg ++ []).filterMap fun n => (((ar.map Arg.arg).zip vals).lookup n).map (n, ·)) := by
  have hd : ([] : List Value).drop (0 - (ar.map Arg.arg).length) = [] := List.drop_nil
  have key : ∀ ds : List Value, ds = [] → ∀ a b : Sem (List (Str × Value)), (if (decide (vals.length > (ar.map Arg.arg).length) && true) = true then a else 
     if (!(((ar.map Arg.arg).take ((ar.map Arg.arg).length - ds.length)).filter fun n => (((ar.map Arg.arg).zip vals).lookup n).isNone).isEmpty) = true then b else
       (forIn (((ar.map Arg.arg).drop ((ar.map Arg.arg).length - ds.length)).zip ds) ((ar.map Arg.arg).zip vals) (fun (x : Str × Value) r => if (r.lookup x.1).isNone = true then pure (ForInStep.yield (r ++ [(x.1, x.2)])) else pure (ForInStep.yield r))) >>= fun slots => pure ((ar.map Arg.arg ++ []).filterMap fun n => (slots.lookup n).map (n, ·)))
       = pure ((ar.map Arg.arg ++ []).filterMap fun n => (((ar.map Arg.arg).zip vals).lookup n).map (n, ·)) := by
    rintro _ rfl a b
    rw [h1]
    show (if (!(((ar.map Arg.arg).take ((ar.map Arg.arg).length)).filter fun n => (((ar.map Arg.arg).zip vals).lookup n).isNone).isEmpty) = true then b else _) = _
    rw [h2, List.zip_nil_right]
    rfl
  exact key _ hd _ _

theorem bind_plain {fd : FuncData} {vals : List Value} {names : List Str} (hp : fd.params.posonlyargs = []) (ha : fd.params.args.map (·.arg) = names) (hk : fd.params.kwonlyargs = []) (hv : fd.params.vararg = none) (hkw : fd.params.kwarg = none) (hd : fd.defaults = .none)
    (hl : names.length = vals.length) (hn : names.Nodup) : bindArgs fd ⟨vals, []⟩ = pure (names.zip vals) := by
  have h1 : ¬ (vals.length > names.length) := by omega
  have h2 : names.filter (fun n => ((names.zip vals).lookup n).isNone) = [] := by
    rw [List.filter_eq_nil_iff]
    intro x hx
    have := lookup_zip_some hl hx
    cases e : (names.zip vals).lookup x with
    | none => rw [e] at this; cases this
    | some v => simp
  rcases fd with ⟨nm, qn, ⟨po, ar, va, ko, kd, kw, df⟩, body, sc, gl, cl, dv, kdv, doc, pm, an, code, ct, bl⟩
  dsimp only at hp ha hk hv hkw hd
  subst hp ha hk hv hkw hd
  rw [bp_key (by rw [decide_eq_false h1]; rfl) (by rw [List.take_length]; exact congrArg List.isEmpty h2), List.append_nil]
  exact congrArg pure (fm_zip hl hn)

end Mine
end

section
set_option autoImplicit false
namespace Mine
open PySem PyProof.Rows
/-! things of an own class: what its __init__ leaves -/
theorem lk_put {β : Type} {f : Str} {v : β} {y : Str} : ∀ {l : List (Str × β)}, f ∉ l.map (·.1) → (l ++ [(f, v)]).lookup y = if y = f then some v else l.lookup y := by
  intro l
  induction l with
  | nil =>
    intro _
    by_cases e : y = f
    · subst e; simp
    · simp [List.lookup_cons, e, beq_eq_false_iff_ne.mpr e]
  | cons p l ih =>
    obtain ⟨g, u⟩ := p
    intro h
    rw [List.map_cons, List.mem_cons, not_or] at h
    rw [List.cons_append, List.lookup_cons, List.lookup_cons, ih h.2]
    by_cases e : y = g
    · subst e
      rw [beq_self_eq_true]
      exact (if_neg (fun q => h.1 q.symm)).symm
    · rw [beq_eq_false_iff_ne.mpr e]
theorem lk_mem {β : Type} {y : Str} : ∀ {l : List (Str × β)}, l.lookup y ≠ none → y ∈ l.map (·.1) := by
  intro l
  induction l with
  | nil => intro h; exact absurd rfl h
  | cons p l ih =>
    obtain ⟨g, u⟩ := p
    intro h
    rw [List.lookup_cons] at h
    by_cases e : y = g
    · rw [e]; exact List.mem_cons_self ..
    · rw [beq_eq_false_iff_ne.mpr e] at h
      exact List.mem_cons_of_mem _ (ih h)
section
variable {prog : Program} {w : World} {A : Around} {E : Value → Shared → Prop}
theorem iv_run {env : Env} {m : Str → Option Value} {names : List Str} {xv : Value} {vals : List Value} {vs : List V} {N : Addr → Prop} {h₀ : Heap} {i : Ini} {y : Expr} {s : Shared} {Q : Value → Shared → Prop}
    (hk : env.scope.kind = .function) (hloc : ∀ y ∈ names, env.kindOf y = some .local ∧ (y == ("__debug__" : Str)) = false) (hL : s.heap.Ns env.locals m) (hm : ∀ (i : Nat) (y : Str), names[i]? = some y → m y = (xv :: vals)[i]?)
    (hn : names.length = vals.length + 1) (r : RVs N h₀ vs vals) (hc : chkIv names i y = true) (hQ : ∀ val tk, RV N h₀ (iniV vs i) val → Q val { s with toks := tk }) : wpAny (model prog w) A (eval y env) Q E s := by
  cases i with
  | arg i =>
    have q_ := onName_inv hc; clear hc; obtain ⟨z, p, rfl, hz⟩ := q_
    have hz := of_decide_eq_true hz
    have hl := hloc z (List.mem_of_getElem? hz)
    have e := hm _ _ hz
    have hi : i < vs.length := by
      have := (List.getElem?_eq_some_iff.mp hz).1
      rw [hn] at this
      rw [r.length]
      exact Nat.lt_of_succ_lt_succ this
    obtain ⟨val, hv, rv⟩ := r.get i (List.getElem?_eq_getElem hi)
    have e : m z = some val := e.trans hv
    refine wpAny_Name (wpAny_loadName_local hk hl.1 hL e ?_) hl.2
    refine hQ val s.toks ?_
    show RV N h₀ ((vs[i]?).getD .none) val
    rw [List.getElem?_eq_getElem hi]; exact rv
  | val v =>
    have q_ := onConst_inv hc; clear hc; obtain ⟨k, j, p, rfl, hz⟩ := q_
    cases v with
    | none => cases of_decide_eq_true hz; exact wpAny_Constant_none (hQ _ s.toks .none)
    | int i => cases of_decide_eq_true hz; exact wpAny_Constant_int (hQ _ _ (.int i _))
    | _ => exact ff hz
theorem chkIv_comp {names : List Str} {i : Ini} {y : Expr} (h : chkIv names i y = true) (t : Option Expr) (l : Nat) (env : Env) : swapsWith y t l env = pure false := by
  cases i with
  | arg i => obtain ⟨z, p, rfl, _⟩ := onName_inv h; rfl
  | val v => obtain ⟨k, j, p, rfl, _⟩ := onConst_inv h; rfl
theorem InsX.inst {h : Heap} {x a C : Addr} {m : Str → Option Value} (i : InsX h x a C) (n : h.Ns1 a m) : h.Inst x C m := by
  obtain ⟨o, h1, h2, h3, h4, h5⟩ := i
  exact ⟨o, h1, h2, h3, .inr ⟨a, h4, h5, n⟩⟩

theorem fs_run {env : Env} {m mN : Str → Option Value} {names : List Str} {self : Str} {x dx C N0 : Addr} {vals : List Value} {vs : List V} {N : Addr → Prop} {h₀ : Heap} {Q : Flow → Shared → Prop}
    (hk : env.scope.kind = .function) (hloc : ∀ y ∈ names, env.kindOf y = some .local ∧ (y == ("__debug__" : Str)) = false) (hm : ∀ (i : Nat) (y : Str), names[i]? = some y → m y = (Value.ref x :: vals)[i]?)
    (hn : names.length = vals.length + 1) (h0 : names[0]? = some self) (r : RVs N h₀ vs vals) (X : ClsAt h₀ C N0 mN) (hsa : mN "__setattr__" = none) (hx : h₀.get? x = none) (hd : h₀.get? dx = none) (hLx : env.locals ≠ x) (hLd : env.locals ≠ dx) :
    ∀ (fs : List (String × Ini)) (body : List Stmt) (l : List (Str × Value)) (s : Shared), chkFs self names fs body = true → (∀ f ∈ fs, mN (Str.ofString f.1) = none) → (∀ f ∈ fs, typeLookup (.type "object") (Str.ofString f.1) = pure none) →
      (l.map (·.1) ++ fs.map fun f => Str.ofString f.1).Nodup → l.length + fs.length ≤ 50 → HK h₀ s.heap → s.heap.Ns env.locals m → InsX s.heap x dx C → s.heap.Ns1 dx (fun y => l.lookup y) →
      (∀ ys h' tk, HK h₀ h' → InsX h' x dx C → h'.Ns1 dx (fun y => (l ++ ys).lookup y) → ys.map (·.1) = (fs.map fun f => Str.ofString f.1) → RVs N h₀ (fs.map fun f => iniV vs f.2) (ys.map (·.2)) → Q .next { s with heap := h', toks := tk }) →
      wpAny (model prog w) A (execs body env) Q E s := by
  intro fs
  induction fs with
  | nil =>
    intro body l s hc _ _ _ _ kk _ hi hn1 hQ
    cases body with
    | cons => exact ff hc
    | nil => exact wpAny_execs_nil (hQ [] s.heap s.toks kk hi (by rw [List.append_nil]; exact hn1) rfl .nil)
  | cons f fs ih =>
    intro body l s hc hq hB hnd hsz kk hL hi hn1 hQ
    cases body with
    | nil => exact ff hc
    | cons b body =>
      have q_ := (Bool.and_eq_true _ _).mp hc; clear hc; obtain ⟨h1, h2⟩ := q_
      have q_ := onAssign_inv h1; clear h1; obtain ⟨tg, y, p, rfl, h1⟩ := q_
      have q_ := onAttr_inv h1; clear h1; obtain ⟨o, a, ap, rfl, h1⟩ := q_
      have q_ := (Bool.and_eq_true _ _).mp h1; clear h1; obtain ⟨h1, hv⟩ := q_
      have q_ := (Bool.and_eq_true _ _).mp h1; clear h1; obtain ⟨h1, ha⟩ := q_
      cases of_decide_eq_true ha
      have q_ := onName_inv h1; clear h1; obtain ⟨z, zp, rfl, hz⟩ := q_
      cases of_decide_eq_true hz
      refine wpAny_execs_cons (plainObj_wpAny_Assign_Attribute ?_ (chkIv_comp hv _ _ _))
      refine iv_run hk hloc hL hm hn r hv fun val tk rv => ?_
      have hl := hloc self (List.mem_of_getElem? h0)
      refine wpAny_Name (wpAny_loadName_local hk hl.1 (s := { s with toks := tk }) hL (hm 0 _ h0) ?_) hl.2
      obtain ⟨nm, q, bs, sn, sub, col, dd, k0, k1, k2, k3, k5, hC⟩ := (X.keeps kk).obj
      obtain ⟨ox, g1, g2, g3, g4, g5⟩ := id hi
      have hxC : x ≠ C := by
        obtain ⟨_, _, _, _, _, _, _, _, _, _, _, _, e⟩ := X.obj
        rintro rfl; rw [hx] at e; cases e
      have hf : Str.ofString f.1 ∉ l.map (·.1) := fun hm => by
        rw [List.nodup_append] at hnd
        exact hnd.2.2 _ hm _ (List.mem_cons_self ..) rfl
      refine store_attr (ns := l.map (·.1)) PySem.F.store_object hC (X.keeps kk).ns hsa (hq f (List.mem_cons_self ..)) (hB f (List.mem_cons_self ..)) hxC (hi.inst hn1) (fun h' tk' I' hk' hsame => ?_) (fun y hy => lk_mem hy) (by rw [List.length_map, sizeLine_eq]; simp only [List.length_cons] at hsz; omega)
      have kk2 : ∀ b o, b ≠ x → b ≠ dx → s.heap.get? b = some o → h'.get? b = some o := fun b o n1 n2 e => hk' b o n1 (fun o₀ d' e₀ ed => by
        obtain rfl := Option.some.inj (g1.symm.trans e₀); obtain rfl := Option.some.inj (g4.symm.trans ed); exact n2) e
      have kk0 : HK h₀ h' := fun b o e => kk2 b o (by rintro rfl; rw [hx] at e; cases e) (by rintro rfl; rw [hd] at e; cases e) (kk b o e)
      obtain ⟨o₁, e₁, c₁, dt₁, _, dk₁⟩ := hsame ox g1
      have hi' : InsX h' x dx C := ⟨o₁, e₁, c₁.trans g2, fun c => by rw [dt₁]; exact g3 c, dk₁ dx g4, g5⟩
      have hn1' : h'.Ns1 dx (fun y => (l ++ [(Str.ofString f.1, val)]).lookup y) := by
        obtain ⟨o', e', _, _, hd'⟩ := I'
        obtain rfl := Option.some.inj (e₁.symm.trans e')
        rcases hd' with ⟨hn0, _⟩ | ⟨d', hd', _, hns'⟩
        · rw [dk₁ dx g4] at hn0; cases hn0
        · obtain rfl := Option.some.inj ((dk₁ dx g4).symm.trans hd')
          have e : (fun y => (l ++ [(Str.ofString f.1, val)]).lookup y) = fun y => if y = Str.ofString f.1 then some val else l.lookup y := funext fun y => lk_put hf
          rw [e]; exact hns'
      have hL' : h'.Ns env.locals m := by
        obtain ⟨oL, es, ep, eL, rL⟩ := hL
        exact ⟨oL, es, ep, kk2 _ _ hLx hLd eL, rL⟩
      refine ih body (l ++ [(Str.ofString f.1, val)]) { s with heap := h', toks := tk' } h2 (fun g hg => hq g (List.mem_cons_of_mem _ hg)) (fun g hg => hB g (List.mem_cons_of_mem _ hg)) (by rw [List.map_append, List.append_assoc]; exact hnd) (by rw [List.length_append]; simp only [List.length_cons, List.length_nil] at hsz ⊢; omega) kk0 hL' hi' hn1' fun ys h'' tk'' q1 q2 q3 q4 q5 => ?_
      exact hQ ((Str.ofString f.1, val) :: ys) h'' tk'' q1 q2 (by rw [← List.append_cons] at q3; exact q3) (by rw [List.map_cons, q4, List.map_cons]) (.cons rv q5)
/-- a thing is made -/
theorem new_call {C N0 : Addr} {mN : Str → Option Value} {n : Nat} {fs : List (String × Ini)} {vs : List V} {vals : List Value} {N : Addr → Prop} {s : Shared} {Q : Value → Shared → Prop}
    (R : CRow s.heap C N0 mN n fs) (hlim : s.heap.NoLimit) (hroom : A.depth + 1 < recursionLimit) (hl : vals.length = n) (r : RVs N s.heap vs vals)
    (hQ : ∀ x dx h' tk ys, HK s.heap h' → s.heap.get? x = none → s.heap.get? dx = none → x ≠ dx → InsX h' x dx C → NsOf h' dx (fs.map (·.1)) ys → RVs N s.heap (fs.map fun f => iniV vs f.2) ys → Q (.ref x) { s with heap := h', toks := tk }) :
    wpAny (model prog w) A (call (.ref C) vals) Q E s := by
  obtain ⟨hh, g, d, t, os⟩ := s
  obtain ⟨nm, q, bs, sn, sub, col, dd, k0, k1, k2, k3, k5, hC⟩ := R.cls.obj
  obtain ⟨fI, oI, pm, cdv, doc, qual, params, body, scope, h1, h2, h3, h4, h5, h6⟩ := R.ini
  unfold chkIni at h6
  have q_ := (Bool.and_eq_true _ _).mp h6; clear h6; obtain ⟨h6, hfs⟩ := q_
  simp only [plainParams, Bool.and_eq_true, decide_eq_true_eq, List.all_eq_true, Bool.not_eq_true', decide_eq_false_iff_not, List.isEmpty_iff, Option.isNone_iff_eq_none] at h6
  obtain ⟨⟨⟨⟨⟨⟨⟨⟨⟨⟨⟨⟨⟨⟨p1, p2⟩, p3⟩, p4⟩, p5⟩, p6⟩, hn⟩, hnd⟩, hloc⟩, hk⟩, hgen⟩, hco⟩, hcell⟩, hfd⟩, hf50⟩ := h6
  refine wpAny_call_obj_init PySem.F.objNew hC R.cls.ns h1 h2 h3 fun h' x dx Mk => ?_
  have hlen : (params.args.map (·.arg)).length = (Value.ref x :: vals).length := by rw [List.length_map, hn, List.length_cons, hl]
  refine wpAny_call (codeAny_call_def (fd := methDef "__init__" qual params body scope pm cdv doc) (body := body) (binds := (params.args.map (·.arg)).zip (.ref x :: vals)) hroom (Mk.keeps _ _ h2) h4 (hlim.keeps Mk.keeps) (h5.keeps Mk.keeps) rfl
    (.of_eq (bind_plain p1 rfl p3 p2 p4 rfl hlen hnd)) hcell (fun y hy => (hloc _ (List.of_mem_zip hy).1).1) (fun h₁ hns hk₁ => ?_) hco hgen hk)
  obtain ⟨ox, hx, hcx, hncx, hdx⟩ := Mk.inst
  have hdd := Mk.dict ox hx
  obtain ⟨hnsd, hne⟩ : (h'.Ns1 dx fun _ => none) ∧ dx ≠ x := by
    rcases hdx with ⟨hn0, _⟩ | ⟨d', hd', hne', hns'⟩
    · rw [hn0] at hdd; cases hdd
    · obtain rfl := Option.some.inj (hd'.symm.trans hdd); exact ⟨hns', hne'⟩
  obtain ⟨p0, ps, hps⟩ : ∃ p0 ps, params.args = p0 :: ps := by
    cases hps : params.args with
    | nil => rw [hps] at hn; cases hn
    | cons p0 ps => exact ⟨p0, ps, rfl⟩
  have hfs : chkFs p0.arg (params.args.map Arg.arg) fs body = true := by
    rw [hps] at hfs ⊢; exact hfs
  have hzn : (((params.args.map Arg.arg).zip (Value.ref x :: vals)).reverse.map (·.1)).Nodup := by
    rw [List.map_reverse, List.map_fst_zip (Nat.le_of_eq hlen)]
    exact (List.pairwise_reverse.mpr (hnd.imp Ne.symm))
  refine fs_run (names := params.args.map Arg.arg) (self := p0.arg) (x := x) (dx := dx) (C := C) (N0 := N0) (mN := mN) (m := fun y => ((params.args.map Arg.arg).zip (Value.ref x :: vals)).reverse.lookup y) (vals := vals) (vs := vs) (N := N) (h₀ := hh) (env := callEnv (methDef "__init__" qual params body scope pm cdv doc) h'.objs.size fI)
    hk (fun y hy => hloc y hy) (fun i y hy => ?_) (by rw [hlen]; rfl) (by rw [hps]; rfl) r R.cls R.sa Mk.newX Mk.newD (Ne.symm (Nat.ne_of_lt (Heap.lt_size hx))) (Ne.symm (Nat.ne_of_lt hnsd.lt)) fs body [] _ hfs (fun f hf => (R.qt f hf).1) (fun f hf => (R.qt f hf).2) hfd (by simpa using hf50)
    (fun b o e => hk₁ _ _ (Mk.keeps _ _ e)) hns ⟨ox, hk₁ _ _ hx, hcx, hncx, hdd, hne⟩ (hnsd.keeps hk₁) fun ys h'' tk q1 q2 q3 q4 q5 => ?_
  · have hi : i < (Value.ref x :: vals).length := by rw [← hlen]; exact (List.getElem?_eq_some_iff.mp hy).1
    have hv : (Value.ref x :: vals)[i]? = some (Value.ref x :: vals)[i] := List.getElem?_eq_getElem hi
    rw [hv]
    refine nodup_lookup hzn (p := (y, _)) (List.mem_reverse.mpr ?_)
    refine List.mem_of_getElem? (i := i) ?_
    rw [List.getElem?_zip_eq_some]
    exact ⟨hy, hv⟩
  · refine ⟨rfl, hQ x dx h'' tk (ys.map (·.2)) q1 Mk.newX Mk.newD (Ne.symm hne) q2 ⟨?_, ?_, ?_, ?_⟩ q5⟩
    · have := congrArg List.length q4
      simpa using this.symm
    · rw [List.map_map]; exact hfd
    · simpa using hf50
    · have e : (fs.map (·.1)).map Str.ofString = ys.map (·.1) := by rw [q4, List.map_map]; rfl
      rw [e, show (ys.map (·.1)).zip (ys.map (·.2)) = ys from by rw [List.zip_map', List.map_id'']; exact fun _ => rfl]
      exact q3
end
end Mine
end

section
set_option autoImplicit false
namespace Mine
open PySem PyProof.Rows
theorem memS {β : Type} {x : String} {v : β} : ∀ {l : List (String × β)}, l.lookup x = some v → (x, v) ∈ l := by
  intro l
  induction l with
  | nil => intro h; cases h
  | cons p l ih =>
    obtain ⟨y, u⟩ := p
    intro h
    rw [List.lookup_cons] at h
    by_cases e : x = y
    · rw [e, beq_self_eq_true] at h
      cases h; rw [e]; exact List.mem_cons_self ..
    · rw [beq_eq_false_iff_ne.mpr e] at h
      exact List.mem_cons_of_mem _ (ih h)
theorem attr_mem {n : String} {v : V} : ∀ {ns : List String} {vs : List V}, attrL n ns vs = some v → n ∈ ns := by
  intro ns
  induction ns with
  | nil => intro vs e; cases e
  | cons m ns ih =>
    intro vs e
    cases vs with
    | nil => cases e
    | cons u vs =>
      by_cases h : m = n
      · rw [h]; exact List.mem_cons_self ..
      · have e : (if m = n then some u else attrL n ns vs) = some v := e
        rw [if_neg h] at e
        exact List.mem_cons_of_mem _ (ih e)
theorem set_mem {n : String} {w : V} : ∀ {ns : List String} {vs vs' : List V}, setAttrL n w ns vs = some vs' → n ∈ ns := by
  intro ns
  induction ns with
  | nil => intro vs vs' e; cases e
  | cons m ns ih =>
    intro vs vs' e
    cases vs with
    | nil => cases e
    | cons u vs =>
      by_cases h : m = n
      · rw [h]; exact List.mem_cons_self ..
      · have e : (if m = n then some (w :: vs) else (setAttrL n w ns vs).map (u :: ·)) = some vs' := e
        rw [if_neg h] at e
        cases q : setAttrL n w ns vs with
        | none => rw [q] at e; cases e
        | some z => exact List.mem_cons_of_mem _ (ih q)
theorem attr_get {N : Addr → Prop} {h : Heap} {n : String} {v : V} : ∀ {ns : List String} {vs : List V} {xs : List Value}, attrL n ns vs = some v → RVs N h vs xs → (ns.map Str.ofString).Nodup → ∃ val, ((ns.map Str.ofString).zip xs).lookup (Str.ofString n) = some val ∧ RV N h v val := by
  intro ns
  induction ns with
  | nil => intro vs xs e; cases e
  | cons m ns ih =>
    intro vs xs e r hn
    cases r with
    | nil => cases e
    | cons r1 r2 =>
      rename_i u vs x xs
      have e : (if m = n then some u else attrL n ns vs) = some v := e
      rw [List.map_cons, List.nodup_cons] at hn
      rw [List.map_cons, List.zip_cons_cons, List.lookup_cons]
      by_cases hm : m = n
      · rw [if_pos hm] at e; cases e
        rw [hm, beq_self_eq_true]
        exact ⟨x, rfl, r1⟩
      · rw [if_neg hm] at e
        have hne : Str.ofString n ≠ Str.ofString m := fun q => hn.1 (q ▸ List.mem_map.mpr ⟨n, attr_mem e, rfl⟩)
        rw [beq_eq_false_iff_ne.mpr hne]
        exact ih e r2 hn.2
theorem attr_set {N : Addr → Prop} {h : Heap} {n : String} {w : V} {val : Value} (rw' : RV N h w val) : ∀ {ns : List String} {vs vs' : List V} {xs : List Value}, setAttrL n w ns vs = some vs' → RVs N h vs xs → (ns.map Str.ofString).Nodup →
    ∃ xs', RVs N h vs' xs' ∧ xs'.length = xs.length ∧ ∀ y, (if y = Str.ofString n then some val else ((ns.map Str.ofString).zip xs).lookup y) = ((ns.map Str.ofString).zip xs').lookup y := by
  intro ns
  induction ns with
  | nil => intro vs vs' xs e; cases e
  | cons m ns ih =>
    intro vs vs' xs e r hn
    cases r with
    | nil => cases e
    | cons r1 r2 =>
      rename_i u vs x xs
      have e : (if m = n then some (w :: vs) else (setAttrL n w ns vs).map (u :: ·)) = some vs' := e
      rw [List.map_cons, List.nodup_cons] at hn
      by_cases hm : m = n
      · rw [if_pos hm] at e; cases e
        refine ⟨val :: xs, .cons rw' r2, rfl, fun y => ?_⟩
        rw [List.map_cons, List.zip_cons_cons, List.zip_cons_cons, List.lookup_cons, List.lookup_cons, hm]
        by_cases hy : y = Str.ofString n
        · rw [if_pos hy, hy, beq_self_eq_true]
        · rw [if_neg hy, beq_eq_false_iff_ne.mpr hy]
      · rw [if_neg hm] at e
        cases q : setAttrL n w ns vs with
        | none => rw [q] at e; cases e
        | some z =>
          rw [q] at e; cases e
          have hne : Str.ofString n ≠ Str.ofString m := fun q' => hn.1 (q' ▸ List.mem_map.mpr ⟨n, set_mem q, rfl⟩)
          obtain ⟨xs', a1, a2, a3⟩ := ih q r2 hn.2
          refine ⟨x :: xs', .cons r1 a1, by rw [List.length_cons, a2, List.length_cons], fun y => ?_⟩
          rw [List.map_cons, List.zip_cons_cons, List.zip_cons_cons, List.lookup_cons, List.lookup_cons]
          by_cases hy : y = Str.ofString m
          · rw [hy, beq_self_eq_true, if_neg (fun q' => hne q'.symm)]
          · rw [beq_eq_false_iff_ne.mpr hy]
            exact a3 y
theorem RV.out {N : Addr → Prop} {h : Heap} {v : V} {x : Value} (r : RV N h v x) : handedOut x = pure x := by cases r <;> rfl
theorem hasC_row {G : PG} {d : Nat} {h : Heap} {c : Nat} {ns : List String} (T : TT G h) (e : (G.cx d).has c ns = true) : ∃ N0 mN n fs, CRow h c N0 mN n fs ∧ fs.map (·.1) = ns := by
  obtain ⟨r, hr, e⟩ := List.any_eq_true.mp e
  obtain ⟨e1, e2⟩ := (Bool.and_eq_true _ _).mp e
  obtain ⟨_, N0, mN, R⟩ := T.cl r hr
  cases of_decide_eq_true e1
  exact ⟨N0, mN, _, _, R, of_decide_eq_true e2⟩
theorem CRow.name {h : Heap} {C N0 : Addr} {mN : Str → Option Value} {k : Nat} {fs : List (String × Ini)} {ns : List String} {n : String} (R : CRow h C N0 mN k fs) (e : fs.map (·.1) = ns) (hn : n ∈ ns) : mN (Str.ofString n) = none ∧ typeLookup (.type "object") (Str.ofString n) = pure none := by
  rw [← e] at hn
  obtain ⟨f, hf, rfl⟩ := List.mem_map.mp hn
  exact R.qt f hf
section
variable {G : PG} {d : Nat} {c : Sc} {A : Around} {env : Env} {lay : Nat → Option Place} {Sys : Addr → Prop} {base : Heap} {st : St} {s : Shared}
theorem attr_eval {o : Expr} {n : Str} {pos : Pos} (h : attrB o = true) : eval (.Attribute o n pos) env = (do
      let v ← eval o env
      standAt pos.atName
      let r ← holding [v] (getAttr v n true)
      letTemporaryGo o v r
      pure r) := by
  cases o with
  | Name => rfl
  | Call f xs ks p =>
    obtain ⟨z, r, rfl⟩ := some1_inv h
    cases f <;> rfl
  | _ => exact ff h
theorem attr_load {N : Addr → Prop} {E : Value → Shared → Prop} {x a C : Addr} {ns : List String} {vs : List V} {xs : List Value} {n : String} {v : V} {K : Value → Shared → Prop} (T : TT G s.heap) (hh : (G.cx d).has C ns = true) (i : InsX s.heap x a C) (o : NsOf s.heap a ns xs) (r : RVs N s.heap vs xs) (e : attrL n ns vs = some v)
    (hK : ∀ val tk, RV N s.heap v val → K val { s with toks := tk }) : wpAny (model G.prog G.w) A (getAttr (.ref x) (Str.ofString n) true) K E s := by
  obtain ⟨N0, mN, k, fs, R, hns⟩ := hasC_row T hh
  obtain ⟨q1, q2⟩ := R.name hns (attr_mem e)
  obtain ⟨val, hl, rv⟩ := attr_get e r o.2.1
  obtain ⟨nm, q, bs, sn, sub, col, dd, k0, k1, k2, k3, k5, hC⟩ := R.cls.obj
  exact load_attr hC R.cls.ns R.ga q1 q2 (i.inst o.2.2.2) hl rv.out (hK val _ rv)
theorem se_attr {a : E} {n : String} {o : Expr} {pos : Pos} (F : Fx G d c A env lay Sys base st s) (ha : SE G d c a o) (hb : attrB o = true) : Snd G.prog G.w G.mg A (NN st.H Sys) Sys s false (eval (.Attribute o (Str.ofString n) pos) env) (WE (G.cx d) (.attr a n) st) := by
  intro Q X K E hW hK hX
  simp only [we_0, we_1, we_2, we_3, we_4, we_5, we_6, we_7, we_8, we_9, we_10, we_11, we_12, we_13, we_14, we_15, we_16, we_17, we_18, we_19, we_20, we_21, we_22, we_23, we_24, we_25, we_26, we_27, we_28, we_29, we_30, we_31, we_32, we_33, we_34, we_35, we_36, we_37] at hW
  refine Attribute_any_ ((ha F).weak _ X _ E hW (fun u va s₁ h₁ r₁ k₁ _ => ?_) hX) (attr_eval hb)
  have F₁ := F.keeps k₁
  split at h₁
  · obtain ⟨hh, h₁⟩ := h₁
    split at h₁
    · rename_i v hv
      cases r₁ with
      | inst n1 n2 i o r => exact attr_load F₁.top hh i o r hv fun val tk rv => hK _ _ _ h₁ rv (k₁.trans (Kp.tok _ tk)) nofun
    · exact h₁.elim
  · split at h₁
    · rename_i hH
      obtain ⟨hh, rfl, rfl, h₁⟩ := h₁
      split at h₁
      · rename_i v hv
        cases r₁ with
        | iref n1 i =>
          cases F₁.sim.objs _ _ hH with
          | inst o r => exact attr_load F₁.top hh i o r hv fun val tk rv => hK _ _ _ h₁ rv (k₁.trans (Kp.tok _ tk)) nofun
      · exact h₁.elim
    · exact h₁.elim
  · exact h₁.elim
theorem ev_new {cn : String} {k n : Nat} {fs : List (String × Ini)} {es : Es} {y : Str} {z : Expr} {xs : List Expr} {p pos : Pos} {Q : List V → Prop} {X : String → Prop} {K E : Value → Shared → Prop} (F : Fx G d c A env lay Sys base st s) (hg : isGlob c y cn = true) (h : SEs G d c es (z :: xs)) (hlk : G.ctab.lookup cn = some (k, n, fs))
    (hW : WEs (G.cx d) es st (fun vs => vs.length = n ∧ Q vs) X)
    (hK : ∀ vs x dx ys h₁ s', Q vs → Kp (FZ A Sys) s s' → s.heap.get? x = none → s.heap.get? dx = none → x ≠ dx → InsX s'.heap x dx k → NsOf s'.heap dx (fs.map (·.1)) ys → RVs (NN st.H Sys) h₁ (fs.map fun f => iniV vs f.2) ys → h₁.get? dx = none → HK h₁ s'.heap → K (.ref x) s') (hX : ∀ e s', Rz G.mg A Sys s X e s' → E e s') :
    wpAny (model G.prog G.w) A (eval (.Call (.Name y p) (z :: xs) [] pos) env) K E s := by
  obtain ⟨b0, T0, k0, n0⟩ := F.sim.topH
  obtain ⟨h1, N0, mN, R⟩ := T0.cl _ (memS hlk)
  have hs := h.1
  simp only [List.all_cons, Bool.and_eq_true] at hs
  rw [arm_eval_Call_Name']
  refine wpAny_bind (ld_glob F hg h1 ?_)
  have kk : ∀ {s₁ : Shared}, Kp (FZ A Sys) s s₁ → HK b0 s₁.heap := fun k₁ b o e => (k₁.hw b o (k0 b o e)).1 fun q => by rw [n0 b (.inr q.2)] at e; cases e
  refine callWith_cls (h₀ := b0) R.cls (h.2 F pos _ X _ E hW (fun vs vals s₁ q r k₁ => ⟨kk k₁, ?_⟩) hX) (starEach_cons hs.1) (star_plain pos env _ hs.2)
  have F₁ := F.keeps k₁
  have hd := F.rm.depth
  refine new_call (R.keeps (kk k₁)) F₁.top.nolimit (by omega) (by rw [← r.length]; exact q.1) r fun x dx h' tk ys q1 q2 q3 q4 q5 q6 q7 => ?_
  exact hK vs x dx ys _ _ q.2 (k₁.trans (Kp.of q1)) (fresh_keeps k₁ q2) (fresh_keeps k₁ q3) q4 q5 q6 q7 q3 q1
theorem se_new {cn : String} {es : Es} {y : Str} {z : Expr} {xs : List Expr} {p pos : Pos} (F : Fx G d c A env lay Sys base st s) (hg : isGlob c y cn = true) (h : SEs G d c es (z :: xs)) : Snd G.prog G.w G.mg A (NN st.H Sys) Sys s false (eval (.Call (.Name y p) (z :: xs) [] pos) env) (WE (G.cx d) (.new cn es) st) := by
  intro Q X K E hW hK hX
  simp only [we_0, we_1, we_2, we_3, we_4, we_5, we_6, we_7, we_8, we_9, we_10, we_11, we_12, we_13, we_14, we_15, we_16, we_17, we_18, we_19, we_20, we_21, we_22, we_23, we_24, we_25, we_26, we_27, we_28, we_29, we_30, we_31, we_32, we_33, we_34, we_35, we_36, we_37] at hW
  split at hW
  · rename_i k n fs hlk
    refine ev_new F hg h hlk hW (fun vs x dx ys h₁ s' q k₁ fx fd hne i o r _ kk => ?_) hX
    have nf : ∀ b, s.heap.get? b = none → ¬ NN st.H Sys b := fun b e q => q.elim (fun q => q (F.sim.fresh e)) fun q => F.sim.live b q e
    exact hK _ _ _ q (.inst (nf x fx) (nf dx fd) i o (r.keeps kk)) k₁ nofun
  · exact hW.elim
end
end Mine
end

section
set_option autoImplicit false
namespace Mine
open PySem

section
variable {G : PG} {d : Nat} {c : Sc} {A : Around} {env : Env} {lay : Nat → Option Place} {Sys : Addr → Prop} {base : Heap} {st : St} {s : Shared} {E : Value → Shared → Prop}

theorem tgIs_idx {u : Nat} {t : Tg} {xs : List Str} (h : tgIs u t xs = true) : ∀ j ∈ t.idx, u ≤ j := by
  cases t with
  | var i =>
    intro j hj
    rw [List.mem_singleton.mp hj, eq_of_beq ((Bool.and_eq_true _ _).mp h).1]
    exact Nat.le_refl _
  | tup is => exact ff h
theorem tgIs_ne {u : Nat} {t : Tg} (h : tgIs u t [] = true) : False := by
  cases t with
  | var i => exact ff ((Bool.and_eq_true _ _).mp h).2
  | tup is => exact ff h

/-- one turn of a comprehension -/
noncomputable abbrev CStep (G : PG) (d : Nat) (c : Sc) (A : Around) (st : St) (base : Heap) (xs : List Str) (sc : Scope) (t : Tg) (ifs : List Expr) (elt : Expr) (f : V → (Option V → Prop) → Prop) : Prop :=
  ∀ (x : V) (k : Option V → Prop), f x k → ∃ ρ', bindT t x st.ρ = some ρ' ∧ ∀ {cenv : Env} {lay' : Nat → Option Place} {Sys' : Addr → Prop} {s' : Shared}, Fx G d (inner c xs sc.names) A cenv lay' Sys' base { st with ρ := ρ' } s' →
    ∀ (K : Option Value → Shared → Prop) (E' : Value → Shared → Prop), (∀ y val s'', k (some y) → RV (NN st.H Sys') s''.heap y val → Kp (FZ A Sys') s' s'' → K (some val) s'') → (∀ s'', k none → Kp (FZ A Sys') s' s'' → K none s'') →
      wpAny (model G.prog G.w) A (forIn ifs true fun c r => if r = true then do let ok ← isTrue c cenv (eval c cenv); pure (ForInStep.yield ok) else pure (ForInStep.yield r))
        (fun ok s₃ => if ok = true then wpAny (model G.prog G.w) A (eval elt cenv) (fun v s₄ => K (some v) s₄) E' s₃ else K none s₃) E' s'

/-- ahead of each turn of a comprehension -/
inductive InvC (A : Around) (Sys N : Addr → Prop) (vs : List V) (wr : List Addr) (Si : Nat → Heap → Prop) (s₂ : Shared) (D C : Addr) (f : V → (Option V → Prop) → Prop) (QQ : List V → Prop) (n : Nat) (s' : Shared) : Prop
  | mk (i acc ys nn m h tk) : n = vs.length - i → i ≤ vs.length → s' = { s₂ with heap := h, toks := tk } → (∀ b o, b ∉ wr → s₂.heap.get? b = some o → (¬ FZ A Sys b → h.get? b = some o) ∧ ∃ sl, h.get? b = some { o with slots := sl }) → Si i h → IsL h D ys nn → h.Ns C m →
    RVs N h acc ys.toList → ys.size ≤ i → compL f (vs.drop i) (fun rest => QQ (acc ++ rest)) → InvC A Sys N vs wr Si s₂ D C f QQ n s'
theorem comp_block {f : V → (Option V → Prop) → Prop} {t : Tg} {tg iter elt : Expr} {ifs : List Expr} {sc : Scope} {pos : Pos} {xs : List Str} {vs : List V} {ds : List Nat} {I : Addr} {cl : List (Str × Addr)} {s₂ : Shared} {nw : Bool} {QQ : List V → Prop} {RR : Value → Addr → Result → Shared → Prop}
    (F : Fx G d c A env lay Sys base st s) (k : Kp (FZ A Sys) s s₂) (io : ItOk G A st.H Sys s s₂ vs ds I nw) (hez : nw = true → isTupX tg = true) (hz : vs.length ≤ sizeLine) (ht : TableOk c xs sc) (hti : tgIs c.used t xs = true) (htg : chkTg (inner c xs sc.names) t tg = true)
    (hcl : ∀ p ∈ sc.names, p.2 = .free → ∃ a, cl.lookup p.1 = some a ∧ env.cells.lookup p.1 = some a) (hstep : CStep G d c A st base xs sc t ifs elt f) (hc : compL f vs QQ)
    (hRR : ∀ D C h' tk m' ys zs nn, QQ ys → s.heap.get? D = none → s.heap.get? C = none → D ≠ C → h'.Ns C m' → IsL h' D zs nn → zs.size ≤ sizeLine → RVs (NN st.H (fun a => Sys a ∨ a = C ∨ a = D)) h' ys zs.toList → HW (FZ A Sys) s.heap h' → RR (.ref D) C (.ok .next) { s₂ with heap := h', toks := tk }) :
    wpAny (model G.prog G.w) A (newList []) (fun acc s₃ => wpAny (model G.prog G.w) A (newFunctionEnv sc env.globals cl [] env.qual none .none (some env)) (fun cenv s₄ =>
      codeAny (model G.prog G.w) A (.compStart (.ListComp elt [⟨tg, iter, ifs, 0⟩] sc pos) 0 (.ref I) acc { cenv with scope := relabel sc env }) (RR acc cenv.locals) s₄) E s₃) E s₂ := by
  obtain ⟨fp, wr, P, Mi, Si, W, hsi, hwr, hfp, hdep, hitem⟩ := io.ex
  have hcell : ∀ y ∈ sc.names, y.2 ≠ .cell := by
    intro y hy e
    rcases ht.names y hy with q | ⟨q, _⟩ | q <;> rw [e] at q <;> cases q
  refine wpAny_newObj_type (wpAny_newFunctionEnv hcell (by intro y hy; simp at hy) (fun h₁ hns₁ hsb₁ => ?_) ht.kind)
  dsimp only at hns₁ hsb₁ ⊢
  generalize hH2 : s₂.heap.push { cls := .type "list", dict := none, data := .seq ([] : List Value).toArray } = H2 at hns₁ hsb₁ ⊢
  have hC : H2.objs.size = s₂.heap.objs.size + 1 := by rw [← hH2, Heap.size_push]
  obtain ⟨D, hDe⟩ : ∃ D, s₂.heap.objs.size = D := ⟨_, rfl⟩
  obtain ⟨C, hCe⟩ : ∃ C, H2.objs.size = C := ⟨_, rfl⟩
  rw [hCe] at hns₁ hsb₁ hC ⊢
  rw [hDe] at hC ⊢
  have hfp : ∀ b ∈ fp, b < D := fun b hb => by
    obtain ⟨o, ho⟩ := hfp b hb
    exact hDe ▸ Heap.lt_size ho
  have hDC : D ≠ C := by omega
  have below : ∀ (b : Nat) o, s₂.heap.get? b = some o → b ≠ C ∧ b ≠ D := fun b o e => by have h' : b < s₂.heap.objs.size := Heap.lt_size e; omega
  have fresh₂ : ∀ b, D ≤ b → s₂.heap.get? b = none := fun b hb => Heap.get?_none_of_le (by omega)
  have old : ∀ b o, s₂.heap.get? b = some o → h₁.get? b = some o := fun b o e => hsb₁.extBut b o (below b o e).1 (Heap.get?_push_of_some _ (hH2 ▸ Heap.get?_push_of_some _ e))
  have hacc : IsL h₁ D #[] 0 := hsb₁.extBut D _ hDC (Heap.get?_push_of_some _ (hH2 ▸ hDe ▸ Heap.get?_push_size _ rfl))
  have hst₁ : Si 0 h₁ := W.frame _ _ _ hsi fun b _ o e => old b o e
  have hDs : s.heap.get? D = none := fresh_keeps k (fresh₂ D (Nat.le_refl _))
  have hCs : s.heap.get? C = none := fresh_keeps k (fresh₂ C (by omega))
  -- what is off limits inside
  let New : Addr → Prop := fun b => b = C ∨ b = D ∨ b ∈ wr
  let Sys' : Addr → Prop := fun a => Sys a ∨ New a
  have hNs : ∀ b, New b → s.heap.get? b = none := by
    rintro b (rfl | rfl | hb)
    · exact hCs
    · exact hDs
    · exact hwr b hb
  have hplace : ∀ i p, lay i = some p → p.addr ≠ C ∧ p.addr ≠ D ∧ p.addr ∉ wr := by
    intro i p hp
    have hl := F.sim.live _ (F.sim.sys i p hp).1
    exact ⟨fun e => hl (e ▸ hCs), fun e => hl (e ▸ hDs), fun e => hl (hwr _ e)⟩
  have hplaceC : ∀ i p, layC c.used C xs lay i = some p → Sys' p.addr := by
    intro i p hp
    simp only [layC] at hp
    split at hp
    · exact .inl (F.sim.sys i p hp).1
    · simp only [Option.map_eq_some_iff] at hp
      obtain ⟨x, _, rfl⟩ := hp
      exact .inr (.inl rfl)
  have hplaceC' : ∀ i p, layC c.used C xs lay i = some p → p.addr ≠ D ∧ p.addr ∉ wr := by
    intro i p hp
    simp only [layC] at hp
    split at hp
    · exact (hplace i p hp).2
    · simp only [Option.map_eq_some_iff] at hp
      obtain ⟨x, _, rfl⟩ := hp
      exact ⟨Ne.symm hDC, fun e => by have : C < D := hfp _ (W.sub _ e); omega⟩
  have hbaseC : base.get? C = none := F.sim.keep.ext hCs
  have hDz : ¬ ZA A D := F.nz hDs
  have hCz : ¬ ZA A C := F.nz hCs
  have hfz : ∀ b ∈ fp, ¬ ZA A b := fun b hb z => by
    by_cases hbw : b ∈ wr
    · exact F.nz (hwr b hbw) z
    · rcases hdep b hb hbw with q | q
      · exact q (.inr (F.za z))
      · exact q.2 (F.sim.dis b (F.za z))
  -- the loop
  have loop : ∀ s₃ : Shared, s₃ = { s₂ with heap := h₁, toks := s₂.toks + ([] : List (Str × Value)).length } →
      codeAny (model G.prog G.w) A (.compLoop (.ListComp elt [⟨tg, iter, ifs, 0⟩] sc pos) 0 (.ref I) (.ref D) (compEnvC sc cl C env)) (RR (.ref D) C) s₃ := by
    rintro s₃ rfl
    refine compLoop_gen (InvC A Sys (NN st.H Sys') vs wr Si s₂ D C f QQ) ?_ vs.length ⟨0, [], #[], 0, _, h₁, _, rfl, Nat.zero_le _, rfl, fun b o _ e => ⟨fun _ => old b o e, o.slots, old b o e⟩, hst₁, hacc, hns₁, .nil, Nat.le_refl _, by simpa using hc⟩
    rintro n s' ⟨i, acc, ys, nn, m, h, tk, hn, hi, rfl, hkeep, hs_i, hL, hM, hR, hsz, hcc⟩
    have toS : ∀ {h : Heap}, (∀ b o, b ∉ wr → s₂.heap.get? b = some o → (¬ FZ A Sys b → h.get? b = some o) ∧ ∃ sl, h.get? b = some { o with slots := sl }) → HW (FZ A Sys) s.heap h := fun {h} hkp b o e =>
      have nb : b ∉ wr := fun hb => by rw [hwr b hb] at e; cases e
      ⟨fun n => (hkp b o nb ((k.hw b o e).1 n)).1 n, let ⟨_, e1⟩ := (k.hw b o e).2; let ⟨sl, e2⟩ := (hkp b _ nb e1).2; ⟨sl, e2⟩⟩
    have hkeep_s := toS hkeep
    rcases Nat.lt_or_ge i vs.length with hlt | hge
    · -- one more
      have hx : vs[i]? = some vs[i] := List.getElem?_eq_getElem hlt
      rw [List.drop_eq_getElem_cons hlt] at hcc
      simp only [cl_nil, cl_cons] at hcc
      obtain ⟨ρ', hb, hstp⟩ := hstep _ _ hcc
      refine W.item i _ _ _ hlt hs_i fun val h1 tk1 hMi hfr hk1 => ?_
      refine W.own i { s₂ with heap := h1, toks := tk1 } val tg _ _ hMi hez fun h2 hs2 hP2 hk2 => ?_
      have hk02 : ∀ b o, b ∉ wr → h.get? b = some o → h2.get? b = some o := fun b o nb e => hk2 b o nb (hk1 b o nb e)
      have hk22 : ∀ b o, b ∉ wr → s₂.heap.get? b = some o → (¬ FZ A Sys b → h2.get? b = some o) ∧ ∃ sl, h2.get? b = some { o with slots := sl } := fun b o nb e => ⟨fun n => hk02 b o nb ((hkeep b o nb e).1 n), let ⟨sl, e'⟩ := (hkeep b o nb e).2; ⟨sl, hk02 b _ nb e'⟩⟩
      have hks2 := toS hk22
      have hCw : C ∉ wr := fun e => by have h' : C < D := hfp _ (W.sub _ e); omega
      have hDw : D ∉ wr := fun e => by have h' : D < D := hfp _ (W.sub _ e); omega
      have hL2 : IsL h2 D ys nn := hk02 D _ hDw hL
      have hM2 : h2.Ns C m := by
        obtain ⟨o, es, ep, ho, r⟩ := hM
        exact ⟨o, es, ep, hk02 C _ hCw ho, r⟩
      have hNew2 : ∀ b, New b → h2.get? b ≠ none := by
        rintro b (rfl | rfl | hb) e
        · obtain ⟨o, es, ep, ho, r⟩ := hM2
          rw [ho] at e; cases e
        · rw [hL2] at e; cases e
        · exact W.ex _ _ hs2 b hb e
      have S2 : Sim G.hf (TT G) lay Sys' (FZ A Sys) base st h2 := F.sim.enter (New := New) hks2 hNs hNew2
      have S3 : Sim G.hf (TT G) (layC c.used C xs lay) Sys' (FZ A Sys) base { st with ρ := wipe c.used st.ρ } h2 := S2.comp F.us (.inr (.inl rfl)) (fun i p hp => (hplace i p hp).1) hbaseC (F.sim.fresh hCs) hM2 ht.nd
      -- the item
      have hgenN : ∀ b, NN st.H Sys' b → NN st.H (fun a => Sys a ∨ a ∈ wr) b ∨ s₂.heap.get? b = none := by
        rintro b (q | q | rfl | rfl | q)
        · exact .inl (.inl q)
        · exact .inl (.inr (.inl q))
        · exact .inr (fresh₂ _ (by omega))
        · exact .inr (fresh₂ _ (Nat.le_refl _))
        · exact .inl (.inr (.inr q))
      have hgenK : ∀ b o, ¬ NN st.H (fun a => Sys a ∨ a ∈ wr) b → s₂.heap.get? b = some o → h2.get? b = some o := fun b o nb e => (hk22 b o (fun q => nb (.inr (.inr q))) e).1 fun q => nb (.inr (.inl q.2))
      have hval : RV (NN st.H Sys') h2 vs[i] val := by
        have := hitem i vs[i] val h2 hx hP2
        cases nw with
        | false => exact RV.gen hgenN hgenK this
        | true =>
          obtain ⟨t', xs', n', ws, e1, rfl, e3, e4, e5⟩ := this
          rw [e1]
          have hft : h.get? t' = none := hfr rfl t' rfl
          refine .tup (fun q => ?_) e3 e4 (RVs.gen hgenN hgenK e5)
          rcases q with q | q | rfl | rfl | q
          · exact q ((F.sim.kz hkeep_s).fresh hft)
          · exact (F.sim.kz hkeep_s).live _ q hft
          · obtain ⟨o, es, ep, ho, r⟩ := hM
            rw [ho] at hft; cases hft
          · rw [hL] at hft; cases hft
          · exact W.ex _ _ hs_i _ q hft
      obtain ⟨ρ₁, hb₁⟩ := bindT_ok (ρ₁ := wipe c.used st.ρ) hti (by rw [wipe_length]) hb
      have O' := env_comp (C := C) F.eo F.us ht hcl
      refine st_tg (c := inner c xs sc.names) F.cold O' (s := { s₂ with heap := h2, toks := tk1 }) S3 htg hb₁ hval fun h3 tk3 S4 tc => ?_
      have hus' : ∀ j p, layC c.used C xs lay j = some p → j < c.used + xs.length := by
        intro j p hp
        simp only [layC] at hp
        split at hp
        · omega
        · simp only [Option.map_eq_some_iff] at hp
          obtain ⟨x, hx, _⟩ := hp
          obtain ⟨hl, _⟩ := List.getElem?_eq_some_iff.mp hx
          omega
      have S5 : Sim G.hf (TT G) (layC c.used C xs lay) Sys' (FZ A Sys) base { st with ρ := ρ' } h3 := S4.forget (ρ' := ρ') fun j v p hp hv => by
        rw [← bindT_agree hti (by rw [wipe_length]) (fun q hq => (wipe_lo hq).symm) hb hb₁ j (hus' j p hp)]; exact hv
      have hk23 : ∀ b o, ¬ Sys' b → h2.get? b = some o → h3.get? b = some o := fun b o nb e => tc b o (fun j _ p hp hb => nb (hb ▸ hplaceC j p hp)) e
      have hk33 : ∀ b o, b ≠ C → h2.get? b = some o → h3.get? b = some o := fun b o nb e => tc b o (fun j hj p hp hb => by
        have hju : c.used ≤ j := tgIs_idx hti j hj
        simp only [layC] at hp
        rw [if_neg (by omega)] at hp
        simp only [Option.map_eq_some_iff] at hp
        obtain ⟨x, _, rfl⟩ := hp
        exact nb hb) e
      have F5 : Fx G d (inner c xs sc.names) A (compEnvC sc cl C env) (layC c.used C xs lay) Sys' base { st with ρ := ρ' } { s₂ with heap := h3, toks := tk3 } := by
        have ez : FZ A Sys' = FZ A Sys := funext fun b => propext ⟨fun q => ⟨q.1, F.za q.1⟩, fun q => ⟨q.1, .inl q.2⟩⟩
        refine ⟨⟨F.rm, O', hus', ez ▸ S5, F.own, F.cold⟩, ?_, ?_⟩
        · obtain ⟨lv, l, e, f⟩ := F.fr
          refine ⟨S5.live, l, e, fun v hv => ?_⟩
          obtain ⟨g1, L', o, g2, g3, g4, g5⟩ := f v hv
          obtain ⟨sl, g6⟩ := (hks2 L' o g4).2
          exact ⟨g1, L', _, g2, .inl g3, hk33 L' _ (fun q => hCz (q ▸ ⟨l, v, e, hv, g2⟩)) g6, g5⟩
        · exact .inr <| (F.hdo ht.dead).imp id fun ⟨y, o, vs, h1, h2, h3, h4⟩ => ⟨y, o, vs, h1, (fun q => q.elim h2 fun q => by rw [hNs y q] at h3; cases h3), hk33 y o (fun q => by rw [q, hCs] at h3; cases h3) ((hks2 y o h3).1 fun q => h2 q.2), h4⟩
      have hL3 : IsL h3 D ys nn := tc D _ (fun j _ p hp => Ne.symm (hplaceC' j p hp).1) hL2
      have hM3 : ∃ m', h3.Ns C m' := by
        -- the names of the frame stand
        cases xs with
        | nil =>
          exact (tgIs_ne hti).elim
        | cons x r => exact S5.ok c.used (.loc C x) (by simp [layC])
      have hsi3 : Si (i + 1) h3 := W.frame _ _ _ hs2 fun b hb o e => tc b o (fun j _ p hp hbe => by
        simp only [layC] at hp
        split at hp
        · have h3' := hplace j p hp
          have hs' := F.sim.sys j p hp
          by_cases hbw : b ∈ wr
          · exact h3'.2.2 (hbe ▸ hbw)
          · rcases hdep b hb hbw with q | q
            · exact q (.inr (hbe ▸ hs'.1))
            · exact q.2 (hbe ▸ hs'.2.2)
        · simp only [Option.map_eq_some_iff] at hp
          obtain ⟨x, _, rfl⟩ := hp
          have hbe : b = C := hbe
          have h' : C < D := hbe ▸ hfp b hb
          omega) e
      -- what each way of the turn leaves
      refine hstp F5 (fun o s₄ => match o with
        | some v => wpAny (model G.prog G.w) A (call (.builtin "list.append") [.ref D, v]) (fun _ s₅ => ∃ m, m < n ∧ InvC A Sys (NN st.H Sys') vs wr Si s₂ D C f QQ m s₅) (notedBy (model G.prog G.w) A (compEnvC sc cl C env) fun e s' => RR (.ref D) C (.error e) s') s₄
        | none => ∃ m, m < n ∧ InvC A Sys (NN st.H Sys') vs wr Si s₂ D C f QQ m s₄) _ ?_ ?_
      · rintro y v s₄ hq rv ⟨h4, tk4, rfl, hk4⟩
        have hL4 : IsL h4 D ys nn := (hk4 _ _ hL3).1 fun q => hDz q.1
        refine append_call hL4 (by omega) ?_
        have hot0 : ∀ b o, b ≠ D → h4.get? b = some o → (h4.update D (Obj.mapSeq fun xs => xs.push v)).get? b = some o := fun b o nb e => (Heap.get?_update_other _ _ (Ne.symm nb)).trans e
        have hoth : ∀ b o, b ≠ D → ¬ ZA A b → h3.get? b = some o → (h4.update D (Obj.mapSeq fun xs => xs.push v)).get? b = some o := fun b o nb nz e => hot0 b o nb ((hk4 b o e).1 fun q => nz q.1)
        have hR' : ∀ {us : List V} {zs : List Value}, RVs (NN st.H Sys') h4 us zs → RVs (NN st.H Sys') (h4.update D (Obj.mapSeq fun xs => xs.push v)) us zs := fun r => r.gen (fun _ q => .inl q) fun b o nb e => (Heap.get?_update_other _ _ (fun q => nb (.inr (.inr (.inr (.inl q.symm)))))).trans e
        obtain ⟨m3, hM3⟩ := hM3
        refine ⟨vs.length - (i + 1), by omega, i + 1, acc ++ [y], ys.push v, _, m3, _, tk4, rfl, hlt, rfl, ?_, ?_, hL4.update _, ?_, ?_, ?_, ?_⟩
        · intro b o nb e
          refine ⟨fun n => hot0 b o (below b o e).2 ((hk4 b o (hk33 b o (below b o e).1 ((hk22 b o nb e).1 n))).1 fun q => n ⟨q.1, F.za q.1⟩), ?_⟩
          obtain ⟨_, e1⟩ := (hk22 b o nb e).2
          obtain ⟨sl, e2⟩ := (hk4 b _ (hk33 b _ (below b o e).1 e1)).2
          exact ⟨sl, hot0 b _ (below b o e).2 e2⟩
        · exact W.frame _ _ _ hsi3 fun b hb o e => hoth b o (fun q => by have h' : D < D := q ▸ hfp b hb; omega) (hfz b hb) e
        · exact hM3.at' fun o e => hoth C o (Ne.symm hDC) hCz e
        · rw [Array.toList_push]
          refine RVs.append (hR' ?_) (hR' (.cons rv .nil))
          refine RVs.gen (fun _ q => .inl q) (fun b o nb e => (hk4 b o (hk23 b o (fun q => nb (.inr q)) (hk02 b o (fun q => nb (.inr (.inr (.inr (.inr q))))) e))).1 fun q => nb (.inr q.2)) hR
        · simp; omega
        · simpa using hq
      · rintro s₄ hq ⟨h4, tk4, rfl, hk4⟩
        obtain ⟨m3, hM3⟩ := hM3
        refine ⟨vs.length - (i + 1), by omega, i + 1, acc, ys, _, m3, _, tk4, rfl, hlt, rfl, ?_, ?_, (hk4 _ _ hL3).1 (fun q => hDz q.1), ?_, ?_, ?_, ?_⟩
        · intro b o nb e
          refine ⟨fun n => (hk4 b o (hk33 b o (below b o e).1 ((hk22 b o nb e).1 n))).1 fun q => n ⟨q.1, F.za q.1⟩, ?_⟩
          obtain ⟨_, e1⟩ := (hk22 b o nb e).2
          obtain ⟨sl, e2⟩ := (hk4 b _ (hk33 b _ (below b o e).1 e1)).2
          exact ⟨sl, e2⟩
        · exact W.frame _ _ _ hsi3 fun b hb o e => (hk4 b o e).1 fun q => hfz b hb q.1
        · exact hM3.at' fun o e => (hk4 C o e).1 fun q => hCz q.1
        · refine RVs.gen (fun _ q => .inl q) (fun b o nb e => (hk4 b o (hk23 b o (fun q => nb (.inr q)) (hk02 b o (fun q => nb (.inr (.inr (.inr (.inr q))))) e))).1 fun q => nb (.inr q.2)) hR
        · omega
        · simpa using hq
    · -- the end
      have hi' : i = vs.length := by omega
      subst hi'
      rw [List.drop_length] at hcc
      simp only [cl_nil, cl_cons, List.append_nil] at hcc
      have hq : Hq A h := (F.hdo ht.dead).imp id fun ⟨y, o, vs, h1, h2, h3, h4⟩ => ⟨y, o, vs, h1, (hkeep_s y o h3).1 fun q => h2 q.2, h4⟩
      have hy : ∀ y, A.handled = some (.ref y) → y ∉ wr := fun y e hb => by
        rcases F.hdo ht.dead with q | ⟨y', o, vs, h1, h2, h3, _⟩
        · rw [q] at e; cases e
        · rw [h1] at e; cases e; rw [hwr _ hb] at h3; cases h3
      refine W.done _ _ _ hq hy hs_i fun h1 tk1 hk1 => ?_
      have hCw : C ∉ wr := fun e => by have h' : C < D := hfp _ (W.sub _ e); omega
      have hDw : D ∉ wr := fun e => by have h' : D < D := hfp _ (W.sub _ e); omega
      have hM1 : h1.Ns C m := hM.at' fun o e => hk1 C o hCw e
      refine hRR D C h1 tk1 m acc ys nn hcc hDs hCs hDC hM1 (hk1 D _ hDw hL) (by omega) (hR.gen (fun b q => ?_) fun b o nb e => hk1 b o (fun q => nb (.inr (.inr (.inr (.inr q))))) e) (toS fun b o nb e => ⟨fun n => hk1 b o nb ((hkeep b o nb e).1 n), let ⟨sl, e'⟩ := (hkeep b o nb e).2; ⟨sl, hk1 b _ nb e'⟩⟩)
      rcases q with q | q | q | q
      · exact .inl (.inl q)
      · exact .inl (.inr (.inl q))
      · exact .inl (.inr (.inr (.inl q)))
      · exact .inl (.inr (.inr (.inr (.inl q))))
  exact codeAny_compStart_list (loop _ rfl) (W.self 0 _ _ _ hst₁ (loop _ rfl))
end

end Mine
end

section
set_option autoImplicit false
namespace Mine
open PySem

section
variable {G : PG} {d : Nat} {c : Sc} {A : Around} {env : Env} {lay : Nat → Option Place} {Sys : Addr → Prop} {base : Heap} {st : St} {s : Shared}

theorem folded_plain {x : Expr} (h : isSetX x = false) (env : Env) (v : Value) : foldedSetIterable x env v = pure v := by
  cases x <;> first | rfl | exact nomatch h

theorem free_cells {xs : List Str} {sc : Scope} (O : EnvOk env c.names c.σ lay) (ht : TableOk c xs sc) : ∀ p ∈ sc.names, p.2 = .free → ∃ a, env.cells.lookup p.1 = some a := by
  intro p hp hf
  rcases ht.names p hp with q | ⟨_, _, ⟨i, hi⟩, hk, _⟩ | q
  · rw [hf] at q; cases q
  · obtain ⟨pl, _, hc⟩ := O.vars p.1 i hi
    have hk' : env.kindOf p.1 = some .cell ∨ env.kindOf p.1 = some .free := hk.elim (fun q => .inl (O.ce _ q)) (O.fr _)
    rcases hc with ⟨hl, _⟩ | ⟨_, _, a, ha, _⟩
    · rcases hk' with q | q <;> rw [hl] at q <;> cases q
    · exact ⟨a, ha⟩
  · rw [hf] at q; cases q

/-- a comprehension's value -/
theorem comp_val {f : V → (Option V → Prop) → Prop} {t : Tg} {tg iter elt : Expr} {ifs : List Expr} {sc : Scope} {pos : Pos} {xs : List Str} {it : It} {Q : V → Prop} {X : String → Prop} {K E : Value → Shared → Prop}
    (F : Fx G d c A env lay Sys base st s) (hi : SI G d c it iter) (hset : isSetX iter = false) (hez : isEZ it = true → isTupX tg = true) (ht : TableOk c xs sc) (hti : tgIs c.used t xs = true) (htg : chkTg (inner c xs sc.names) t tg = true)
    (hstep : CStep G d c A st base xs sc t ifs elt f) (hW : WI (G.cx d) it st (fun xs _ => xs.length ≤ sizeLine ∧ compL f xs (fun ys => Q (.lst ys))) X)
    (hK : ∀ v val s', Q v → RV (NN st.H Sys) s'.heap v val → Kp (FZ A Sys) s s' → Frsh (NN st.H Sys) s s' v val → K val s') (hX : ∀ e s', Rz G.mg A Sys s X e s' → E e s') :
    wpAny (model G.prog G.w) A (eval (.ListComp elt [⟨tg, iter, ifs, 0⟩] sc pos) env) K E s := by
  rw [eval_ListComp]
  obtain ⟨cl, e1, e2⟩ := closure_ok (free_cells F.eo ht)
  refine wpAny_comprehension_free (use := none) rfl (folded_plain hset env) e1 ht.kind (fun x hx hl => by rw [← hl]; exact nodup_lookup ht.nodup hx) ?_
  refine hi F _ X _ E hW (fun vs ds I s₂ hq k io => ?_) hX
  refine comp_block (RR := fun acc C => compPost (model G.prog G.w) A E none K acc C) F k io hez hq.1 ht hti htg e2 hstep hq.2 ?_
  intro D C h' tk m' ys zs nn hQ hD hC hDC hm hl hz hr hk
  refine ⟨m', hm, fun h'' hs => ?_⟩
  obtain ⟨h2, t2, rfl, k2⟩ := k
  have hkk : HW (FZ A Sys) s.heap h'' := hk.ext1 hC hs.extBut
  have hl' : IsL h'' D zs nn := hs.extBut D _ hDC hl
  have hr' : RVs (fun b => NN st.H Sys b ∨ b = D) h'' ys zs.toList := hr.gen (fun b q => by
    rcases q with (q | q) | q
    · exact .inl (.inl q)
    · exact .inl (.inr (.inl q))
    · exact .inl (.inr (.inr (.inr q)))) fun b o nb e => hs.extBut b o (fun q => nb (.inr (.inr (.inl q)))) e
  refine hK _ _ _ hQ (new_at F.sim.objs F.sim.live hD hl' hz (hr'.less fun b q => .inl q)) (Kp.ofW hkk) ?_
  rintro a ⟨⟩
  refine ⟨hD, ?_⟩
  rintro vs' ⟨⟩
  exact ⟨zs, nn, hl', hz, hr'⟩

theorem cstep_plain {t : Tg} {e : E} {elt : Expr} {sc : Scope} {xs : List Str} (he : SE G d (inner c xs sc.names) e elt) :
    CStep G d c A st base xs sc t [] elt (fun x k => match bindT t x st.ρ with
        | some ρ' => WE (G.cx d) e { st with ρ := ρ' } (fun y => k (some y)) (fun _ => False)
        | none => False) := by
  intro x k h
  split at h
  · rename_i ρ' hb
    refine ⟨ρ', hb, fun {cenv lay' Sys' s'} F K E' hs hn => wpAny_tests_nil ?_⟩
    rw [if_pos rfl]
    exact (he F).weak _ (fun _ => False) _ _ h (fun v val s'' q r k' _ => hs v val s'' q r k') fun e s'' q => q.no.elim
  · exact h.elim

theorem se_comp {t : Tg} {e : E} {tg iter elt : Expr} {sc : Scope} {pos : Pos} {xs : List Str} {it : It} (F : Fx G d c A env lay Sys base st s) (hi : SI G d c it iter) (hset : isSetX iter = false) (hez : isEZ it = true → isTupX tg = true) (ht : TableOk c xs sc) (hti : tgIs c.used t xs = true)
    (htg : chkTg (inner c xs sc.names) t tg = true) (he : SE G d (inner c xs sc.names) e elt) : Snd G.prog G.w G.mg A (NN st.H Sys) Sys s true (eval (.ListComp elt [⟨tg, iter, [], 0⟩] sc pos) env) (WE (G.cx d) (.comp e t it) st) := by
  intro Q X K E hW hK hX
  simp only [we_0, we_1, we_2, we_3, we_4, we_5, we_6, we_7, we_8, we_9, we_10, we_11, we_12, we_13, we_14, we_15, we_16, we_17, we_18, we_19, we_20, we_21, we_22, we_23, we_24, we_25, we_26, we_27, we_28, we_29, we_30, we_31, we_32, we_33, we_34, we_35, we_36, we_37] at hW
  exact comp_val F hi hset hez ht hti htg (cstep_plain he) hW (fun v val s' q r k f => hK v val s' q r k fun _ => f) hX
end

end Mine
end

section
set_option autoImplicit false
namespace Mine
open PySem

/-- what a call of the table's functions gives, at so many levels of calls -/
noncomputable def CallSnd (G : PG) (d : Nat) : Prop :=
  ∀ {A : Around} {H : AH} {Sys : Addr → Prop} {s : Shared} {f : String} {fa : Addr} {vs : List V} {vals : List Value}, RmC d A → (∃ b0, TT G b0 ∧ HK b0 s.heap ∧ ∀ a, NN H Sys a → b0.get? a = none) → HO G.hf H Sys s.heap → (∀ a, Sys a → s.heap.get? a ≠ none) → (∀ a, Sys a → H a = none) → FrOk A Sys s.heap → HdOk A Sys s.heap → (G.hots.contains f = false → A.handled = none) → G.mg (Str.ofString f) = some (.ref fa) →
    RVs (NN H Sys) s.heap vs vals → ∀ (Q : V → AH → Prop) (X : String → Prop) (K E : Value → Shared → Prop), (G.cx d).run f vs H Q X → (∀ v val H' Sys' s', Q v H' → Given G.hf H H' Sys Sys' s s' → RV (NN H' Sys') s'.heap v val → Kp (FZ A Sys) s s' → K val s') → (∀ e s', Rz G.mg A Sys s X e s' → E e s') →
      wpAny (model G.prog G.w) A (call (.ref fa) vals) K E s

section
variable {G : PG} {d : Nat} {c : Sc} {A : Around} {env : Env} {lay : Nat → Option Place} {Sys : Addr → Prop} {base : Heap} {st : St} {s : Shared}

theorem call_raw (hc : CallSnd G d) {f : String} {es : Es} {y : Str} {p pos : Pos} {z : Expr} {xs : List Expr} (F : Fx G d c A env lay Sys base st s) (hg : isGlob c y f = true) (h : SEs G d c es (z :: xs)) (hf : ∃ fn, G.tbl.lookup f = some fn) (hfn0 : c.fns.contains f = true) (hho : c.hots = G.hots) :
    ∀ (Q : V → AH → Prop) (X : String → Prop) (K E : Value → Shared → Prop), WEs (G.cx d) es st (fun vs => (G.cx d).run f vs st.H Q X) X → (∀ v val H' Sys' s', Q v H' → Given G.hf st.H H' Sys Sys' s s' → RV (NN H' Sys') s'.heap v val → Kp (FZ A Sys) s s' → K val s') → (∀ e s', Rz G.mg A Sys s X e s' → E e s') →
      wpAny (model G.prog G.w) A (eval (.Call (.Name y p) (z :: xs) [] pos) env) K E s := by
  intro Q X K E hW hK hX
  obtain ⟨fn, hfn⟩ := hf
  have hcold : G.hots.contains f = false → A.handled = none := fun e => F.cold (by
    have := isGlob_hot hg
    unfold hotOk at this
    rw [hho, e, hfn0] at this
    cases q : c.hot with
    | false => rfl
    | true => rw [q] at this; simp at this)
  have hnd : ¬ (c.hot = true ∧ c.dead = true) := fun ⟨q1, q2⟩ => by
    have := isGlob_hot hg
    unfold hotOk at this
    rw [hfn0, q1, q2] at this
    simp at this
  obtain ⟨b0, T0, k0, n0⟩ := F.sim.topH
  obtain ⟨dr, a, o, pm, code, doc, h1, h2, h3, h4, h5⟩ := T0.fn f fn hfn
  have k0' : ∀ {s₁ : Shared}, Kp (FZ A Sys) s s₁ → HK b0 s₁.heap := fun k₁ b o e => (k₁.hw b o (k0 b o e)).1 fun q => by rw [n0 b (.inr q.2)] at e; cases e
  rw [arm_eval_Call_Name']
  refine wpAny_bind (ld_glob F hg h1 ?_)
  have e : backTo pos (starEach (z :: xs) env) = (false, eval z env) :: backTo pos (starEach xs env) := by
    have := h.1
    simp only [List.all_cons, Bool.and_eq_true] at this
    rw [starEach_cons this.1]; rfl
  have hs := h.2 F pos _ X (fun vals s' => (s'.heap.get? a = some o ∧ o.data = .func (Calls.docDef dr.name dr.params dr.body dr.scope pm code doc)) ∧ wpAny (model G.prog G.w) A (call (.ref a) vals) K E s') E hW (fun vs vals s' q r k => ?_) hX
  · show wpAny _ _ (callWith pos (.ref a) [] _ _) _ _ _
    rw [e] at hs ⊢
    exact Calls.callWith_function (Calls.evalArgs_plain hs)
  · have F' := F.keeps k
    exact ⟨⟨(k0' k) _ _ h2, h3⟩, hc F'.rm.toC F'.sim.topH F'.sim.objs F'.sim.live F'.sim.dis F'.fr (F'.hd.resolve_left hnd) hcold h1 r Q X K E q (fun v val H' Sys' s'' q' g r' k' => hK v val H' Sys' s'' q' (g.before k) r' (k.trans k')) fun e s'' q' => hX e s'' (Rz.trans k q')⟩
theorem se_call (hc : CallSnd G d) {f : String} {es : Es} {y : Str} {p pos : Pos} {z : Expr} {xs : List Expr} (F : Fx G d c A env lay Sys base st s) (hg : isGlob c y f = true) (h : SEs G d c es (z :: xs)) (hf : ∃ fn, G.tbl.lookup f = some fn) (hfn0 : c.fns.contains f = true) (hho : c.hots = G.hots) :
    Snd G.prog G.w G.mg A (NN st.H Sys) Sys s false (eval (.Call (.Name y p) (z :: xs) [] pos) env) (WE (G.cx d) (.call f es) st) := by
  intro Q X K E hW hK hX
  simp only [we_0, we_1, we_2, we_3, we_4, we_5, we_6, we_7, we_8, we_9, we_10, we_11, we_12, we_13, we_14, we_15, we_16, we_17, we_18, we_19, we_20, we_21, we_22, we_23, we_24, we_25, we_26, we_27, we_28, we_29, we_30, we_31, we_32, we_33, we_34, we_35, we_36, we_37] at hW
  refine call_raw hc F hg h hf hfn0 hho _ X K E hW (fun v val H' Sys' s' q g r k => ?_) hX
  have hfz := frz_ok (H := H') (B := st.H) (Sys := Sys) (Sys' := Sys') (h := s'.heap) g.ho g.sub g.stay fun a q q' hs => F.sim.live a hs (g.own a q q')
  split at q
  · rename_i v' hv'
    exact hK v' _ s' q ((hfz 8).1 _ _ _ hv' r) k nofun
  · exact q.elim
end

theorem st_ite {G : PG} {d : Nat} {c : Sc} {t a b : E} {y z u : Expr} {pos : Pos} (ht : ST G d c t y) (ha : ST G d c a z) (hb : ST G d c b u) : ST G d c (.ite t a b) (.IfExp y z u pos) := by
  intro A env lay Sys base st s F Q X K E hW hK hX
  simp only [we_0, we_1, we_2, we_3, we_4, we_5, we_6, we_7, we_8, we_9, we_10, we_11, we_12, we_13, we_14, we_15, we_16, we_17, we_18, we_19, we_20, we_21, we_22, we_23, we_24, we_25, we_26, we_27, we_28, we_29, we_30, we_31, we_32, we_33, we_34, we_35, we_36, we_37] at hW
  show wpAny _ _ (do if ← isTrue y env (eval y env) then isTrue z env (eval z env) else isTrue u env (eval u env)) _ _ _
  refine wpAny_bind (ht F (fun r => if r then WE (G.cx d) a st (fun u => match truthV st.H u with | some b => Q b | none => False) X else WE (G.cx d) b st (fun u => match truthV st.H u with | some b => Q b | none => False) X) X _ E (WE_cg hW fun u => ?_) (fun r s₁ q k => ?_) hX)
  · cases truthV st.H u with
    | none => rfl
    | some r => cases r <;> rfl
  · cases r
    · simp only [Bool.false_eq_true, if_false] at q ⊢
      exact hb (F.keeps k) Q X K E q (fun b s' q' k' => hK b s' q' (k.trans k')) fun e s' q' => hX e s' (Rz.trans k q')
    · simp only [if_true] at q ⊢
      exact ha (F.keeps k) Q X K E q (fun b s' q' k' => hK b s' q' (k.trans k')) fun e s' q' => hX e s' (Rz.trans k q')

theorem isComp_inv {y : Expr} (h : isComp y = true) : (∃ a b c d, y = .ListComp a b c d) ∨ (∃ a b c d, y = .SetComp a b c d) ∨ (∃ a b c d e, y = .DictComp a b c d e) := by
  cases y <;> first | exact ff h | exact .inl ⟨_, _, _, _, rfl⟩ | exact .inr (.inl ⟨_, _, _, _, rfl⟩) | exact .inr (.inr ⟨_, _, _, _, _, rfl⟩)
theorem comp_only {c : Sc} {e : E} {y : Expr} (he : chkE c e y = true) (h : isComp y = true) : isCompE e = true := by
  rcases isComp_inv h with ⟨a, b, g, d, rfl⟩ | ⟨a, b, g, d, rfl⟩ | ⟨a, b, g, d, p, rfl⟩ <;> cases e <;> first | rfl | exact ff he

theorem tyNames {t : Ty} (h : plainTy t = true) : tyName t ∈ bnames ∧ bval (tyName t) = .type (tyName t) := by
  cases t <;> first | exact ⟨by decide, rfl⟩ | exact ff h

end Mine
end

section
set_option autoImplicit false
set_option maxRecDepth 100000
namespace Mine
open PySem
section
variable {prog : Program} {w : World} {A : Around} {E : Value → Shared → Prop} {h : Heap} {g : Array GenState} {d : Drawn} {t : Nat} {os : OsState} {a : Addr} {o : Obj}
  {nm q : Str} {C N : Addr} {bs bm : List Value} {hdct : Bool} {sn : List Str} {sub : List Value} {ab : Bool} {col : Option Bool} {dd : Option Addr} {k0 k1 k2 k3 k5 : Option Value} {newId : String}
theorem along_q {M : Model} {l : List Value} {n : Str} {y : Option Value} {Q : Option Value → Shared → Prop} (hn : n ∈ qNames) (T : QTail h l) (hrest : lookupAlong bmV n = pure y) (hq : Q y ⟨h, g, d, t, os⟩) : wpAny M A (lookupAlong l n) Q E ⟨h, g, d, t, os⟩ := by
  induction T with
  | base => rw [hrest]; exact wpAny_pure hq
  | own hA hN hni _ ih =>
    rw [lookupAlong_cons]
    refine wpAny_bind (wpAny_classOwn_cls hA hN ?_)
    rw [hni n hn]
    exact ih
theorem look_q {M : Model} {n : Str} {y : Option Value} {Q : Option Value → Shared → Prop} (hn : n ∈ qNames) (hC : h.get? C = some (excClassObj nm q C N bs bm hdct sn sub ab col dd k0 k1 k2 k3 k5 newId)) (T : QTail h (.ref C :: bm))
    (hB : typeLookup (.type "ValueError") n = pure y) (hq : Q y ⟨h, g, d, t, os⟩) : wpAny M A (typeLookup (.ref C) n) Q E ⟨h, g, d, t, os⟩ := by
  have hrest : lookupAlong bmV n = pure y := by rw [typeLookup_eq, F.attrBase_ValueError.mro] at hB; exact hB
  rw [typeLookup_eq]
  exact wpAny_bind (wpAny_mroOf_exc hC (along_q hn T hrest hq))
theorem q_has {l : List Value} {X : String} {b : Bool} (T : QTail h l) (hb : bmV.contains (.type X) = b) : l.contains (.type X) = b := by
  induction T with
  | base => exact hb
  | own _ _ _ _ ih => rw [List.contains_cons, ih]; rfl
theorem lk_ve_class : typeLookup (.type "ValueError") "__class__" = pure (some (.builtin "object.__class__")) := by rw [typeLookup_type, builtinLookup_eq_fast]; kernel_rfl

theorem cls_get {R : Result → Shared → Prop} (hC : h.get? C = some (excClassObj nm q C N bs bm hdct sn sub ab col dd k0 k1 k2 k3 k5 newId)) (T : QTail h (.ref C :: bm)) (hx : h.get? a = some o) (hc : o.cls = .ref C) (hq : R (.ok (.ret (.ref C))) ⟨h, g, d, t, os⟩) :
    codeAny (model prog w) A (.call (.builtin "getset_descriptor.__get__") ⟨[.builtin "object.__class__", .ref a, .ref C], []⟩) R ⟨h, g, d, t, os⟩ := by
  have hT5 : (⟨h, g, d, t, os⟩ : Shared).TypeIs (.builtin "object.__class__") "getset_descriptor" := F.typeOf_object_class
  have hcB : (Value.ref C :: bm).contains (.type (".".intercalate ("object.__class__".cutAt '.').dropLast)) = true := by
    rw [F.owner_object_class]; exact q_has T rfl
  refine codeAny_call_builtin F.slot_gs_get.plain F.entry_gs_get (F.slot_gs_get.check _ _ _ _ _ _ _ _ hT5 (F.args_gs_get _ _ _) ?_)
  repeat (any_goals (first | assumption | (with_reducible refine wpAny_loadPart_at hx ?_; rw [hc]) | (with_reducible refine wpAny_isSubtype_exc hC ?_; rw [hcB]) | wp_step))
  refine ⟨Code.quiet_builtin _ (by decide +kernel), codeAny_builtin F.entry_object_class ?_⟩
  repeat (any_goals (first | assumption | (with_reducible refine wpAny_loadPart_at hx ?_; rw [hc]) | wp_step))

theorem cls_entry {tk : Tok} {Q : Fin → Shared → Prop} (hC : h.get? C = some (excClassObj nm q C N bs bm hdct sn sub ab col dd k0 k1 k2 k3 k5 newId)) (T : QTail h (.ref C :: bm)) (hx : h.get? a = some o) (hc : o.cls = .ref C) (hq : Q (.done (.ret (.ref C))) ⟨h, g, d, t, os⟩) :
    wpAny (model prog w) A (Builtin.«object.__getattribute__» ⟨[.ref a, .str "__class__" tk], []⟩) Q E ⟨h, g, d, t, os⟩ := by
  have hT5 : (⟨h, g, d, t, os⟩ : Shared).TypeIs (.builtin "object.__class__") "getset_descriptor" := F.typeOf_object_class
  have f5 := F.typeOf_object_class
  have f6 := F.slot_gs_get.lookup
  have f7 := F.slot_gs_set.lookup
  have hmA : ("__class__" : Str) ∈ qNames := .tail _ (.tail _ (.head _))
  repeat (any_goals (first | assumption | (with_reducible refine wpAny_loadPart_at hx ?_; rw [hc]) | with_reducible refine look_q hmA hC T lk_ve_class ?_ | wp_step))
  refine cls_get hC T hx hc ?_
  repeat (any_goals (first | assumption | wp_step))

theorem chk_ga {M : Model} {nameV : Value} {Q : Unit → Shared → Prop} (hC : h.get? C = some (excClassObj nm q C N bs bm hdct sn sub ab col dd k0 k1 k2 k3 k5 newId)) (T : QTail h (.ref C :: bm)) (hx : h.get? a = some o) (hc : o.cls = .ref C) (hq : Q () ⟨h, g, d, t, os⟩) : wpAny M A (checkBuiltinCall "BaseException.__getattribute__" ⟨[.ref a, nameV], []⟩) Q E ⟨h, g, d, t, os⟩ := by
  have hk : builtinKind "BaseException.__getattribute__" = some .slot := by decide +kernel
  have hsplit : splitId "BaseException.__getattribute__" = some ("BaseException", "__getattribute__") := by decide +kernel
  have hcB : (Value.ref C :: bm).contains (.type "BaseException") = true := q_has T rfl
  have ha := F.args_bexc_ga (.ref a) nameV
  simp only [checkBuiltinCall, hk, hsplit]
  refine wpAny_bind ?_
  · unfold isInstance
    repeat (first | (with_reducible refine wpAny_loadPart_at hx ?_; rw [hc]) | (with_reducible refine wpAny_isSubtype_exc hC ?_; rw [hcB]) | wp_step)
    exact hq

theorem cls_call {tk : Tok} {R : Result → Shared → Prop} (hC : h.get? C = some (excClassObj nm q C N bs bm hdct sn sub ab col dd k0 k1 k2 k3 k5 newId)) (T : QTail h (.ref C :: bm)) (hx : h.get? a = some o) (hc : o.cls = .ref C) (hq : R (.ok (.ret (.ref C))) ⟨h, g, d, t, os⟩) :
    codeAny (model prog w) A (.call (.builtin "BaseException.__getattribute__") ⟨[.ref a, .str "__class__" tk], []⟩) R ⟨h, g, d, t, os⟩ :=
  codeAny_call_builtin F.attrBase_ValueError.ga.plain F.entry_bexc_ga (chk_ga hC T hx hc (cls_entry hC T hx hc hq))

theorem cls_by {tk : Tok} {Q : Value → Shared → Prop} (hC : h.get? C = some (excClassObj nm q C N bs bm hdct sn sub ab col dd k0 k1 k2 k3 k5 newId)) (T : QTail h (.ref C :: bm)) (hx : h.get? a = some o) (hc : o.cls = .ref C) (hq : Q (.ref C) ⟨h, g, d, t, os⟩) : wpAny (model prog w) A (getAttrBy (.ref a) (.str "__class__" tk) false) Q E ⟨h, g, d, t, os⟩ := by
  have f3 := F.attrBase_ValueError.ga.bind (.ref a)
  have hx2 : (Value.builtin "BaseException.__getattribute__" == Value.builtin "object.__getattribute__") = false := by decide +kernel
  have hx1 : (onTheHeap (Value.ref C) && Value.builtin "BaseException.__getattribute__" == Value.builtin "object.__getattribute__") = false := by rw [hx2]; rfl
  have hm1 : ("__getattribute__" : Str) ∈ qNames := .head _
  have hm2 : ("__getattr__" : Str) ∈ qNames := .tail _ (.head _)
  repeat (any_goals (first | assumption | (with_reducible refine wpAny_loadPart_at hx ?_; rw [hc]) | with_reducible refine look_q hm1 hC T F.attrBase_ValueError.ga.lookup ?_ | with_reducible refine look_q hm2 hC T F.attrBase_ValueError.noGetattr ?_ | wp_step))
  refine cls_call hC T hx hc ?_
  repeat (any_goals (first | assumption | wp_step))

theorem cls_attr {Q : Option Value → Shared → Prop} (hC : h.get? C = some (excClassObj nm q C N bs bm hdct sn sub ab col dd k0 k1 k2 k3 k5 newId)) (T : QTail h (.ref C :: bm)) (hx : h.get? a = some o) (hc : o.cls = .ref C) (hq : Q (some (.ref C)) ⟨h, g, d, t + 1, os⟩) : wpAny (model prog w) A (getAttr? (.ref a) "__class__") Q E ⟨h, g, d, t, os⟩ := by
  unfold getAttr? getAttrBy?
  repeat (any_goals (first | assumption | with_reducible apply cls_by hC T hx hc | wp_step))

theorem isi_ve {dep : Int} {tk : Tok} {Q : Fin → Shared → Prop} (hC : h.get? C = some (excClassObj nm q C N bs bm hdct sn sub ab col dd k0 k1 k2 k3 k5 newId)) (T : QTail h (.ref C :: bm)) (hx : h.get? a = some o) (hc : o.cls = .ref C) (hq : Q (.done (.ret (.bool true))) ⟨h, g, d, t, os⟩) :
    wpAny (model prog w) A (Builtin.«isinstance.nested» ⟨[.ref a, .type "ValueError", .int dep tk], []⟩) Q E ⟨h, g, d, t, os⟩ := by
  have hty : typeOf (.type "ValueError") = pure (.type "type") := by kernel_rfl
  have hcV : (Value.ref C :: bm).contains (.type "ValueError") = true := q_has T rfl
  have he' : (Value.ref C == Value.type "ValueError") = false := rfl
  repeat (any_goals (first | assumption | (with_reducible refine wpAny_loadPart_at hx ?_; rw [hc]) | (with_reducible refine wpAny_isSubtype_exc hC ?_; rw [hcV]) | wp_step))

theorem isi_own {D : Addr} {nm' q' : Str} {N' : Addr} {bs' bm' : List Value} {hdct' : Bool} {sn' : List Str} {sub' : List Value} {ab' : Bool} {col' : Option Bool} {dd' : Option Addr} {k0' k1' k2' k3' k5' : Option Value} {newId' : String}
    {b : Bool} {dep : Int} {tk : Tok} {Q : Fin → Shared → Prop} (hC : h.get? C = some (excClassObj nm q C N bs bm hdct sn sub ab col dd k0 k1 k2 k3 k5 newId)) (hD : h.get? D = some (excClassObj nm' q' D N' bs' bm' hdct' sn' sub' ab' col' dd' k0' k1' k2' k3' k5' newId'))
    (T : QTail h (.ref C :: bm)) (hx : h.get? a = some o) (hc : o.cls = .ref C) (hb : (Value.ref C :: bm).contains (.ref D) = b) (hq : ∀ t', Q (.done (.ret (.bool b))) ⟨h, g, d, t', os⟩) :
    wpAny (model prog w) A (Builtin.«isinstance.nested» ⟨[.ref a, .ref D, .int dep tk], []⟩) Q E ⟨h, g, d, t, os⟩ := by
  have q1 := hq t
  have q2 := hq (t + 1)
  by_cases he : (Value.ref C == Value.ref D) = true
  · have : b = true := by rw [← hb, List.contains_cons]; rw [show (Value.ref D == Value.ref C) = true from by rw [eq_of_beq he]; exact beq_self_eq_true _]; rfl
    subst this
    repeat (any_goals (first | assumption | (with_reducible refine wpAny_loadPart_at hx ?_; rw [hc]) | with_reducible refine wpAny_loadPart_at hD ?_ | wp_step))
  · have he' : (Value.ref C == Value.ref D) = false := by simpa using he
    cases b with
    | true => repeat (any_goals (first | assumption | (with_reducible refine wpAny_loadPart_at hx ?_; rw [hc]) | with_reducible refine wpAny_loadPart_at hD ?_ | (with_reducible refine wpAny_isSubtype_exc hC ?_; rw [hb]) | wp_step))
    | false => repeat (any_goals (first | assumption | with_reducible apply cls_attr hC T hx hc | (with_reducible refine wpAny_loadPart_at hx ?_; rw [hc]) | with_reducible refine wpAny_loadPart_at hD ?_ | (with_reducible refine wpAny_isSubtype_exc hC ?_; rw [hb]) | wp_step))

theorem call_isi_ve {s : Shared} {K : Value → Shared → Prop} (hC : s.heap.get? C = some (excClassObj nm q C N bs bm hdct sn sub ab col dd k0 k1 k2 k3 k5 newId)) (T : QTail s.heap (.ref C :: bm)) (hx : s.heap.get? a = some o) (hc : o.cls = .ref C) (hK : K (.bool true) s) : wpAny (model prog w) A (call (.builtin "isinstance") [.ref a, .type "ValueError"]) K E s :=
  call_isinstance (S := fun _ R s => (s.heap.get? C = some (excClassObj nm q C N bs bm hdct sn sub ab col dd k0 k1 k2 k3 k5 newId) ∧ QTail s.heap (.ref C :: bm) ∧ s.heap.get? a = some o) ∧ R (.ok (.ret (.bool true))) s)
    (fun _ _ _ _ s hs => by
      obtain ⟨h, g, d, t, os⟩ := s
      obtain ⟨⟨h1, h2, h3⟩, hq⟩ := hs
      exact isinstance_outer (isi_ve h1 h2 h3 hc hq) (by intro e; cases e)) ⟨⟨hC, T, hx⟩, hK⟩
theorem call_isi_own {s : Shared} {K : Value → Shared → Prop} {D : Addr} {nm' q' : Str} {N' : Addr} {bs' bm' : List Value} {hdct' : Bool} {sn' : List Str} {sub' : List Value} {ab' : Bool} {col' : Option Bool} {dd' : Option Addr} {k0' k1' k2' k3' k5' : Option Value} {newId' : String} {b : Bool}
    (hC : s.heap.get? C = some (excClassObj nm q C N bs bm hdct sn sub ab col dd k0 k1 k2 k3 k5 newId)) (hD : s.heap.get? D = some (excClassObj nm' q' D N' bs' bm' hdct' sn' sub' ab' col' dd' k0' k1' k2' k3' k5' newId')) (T : QTail s.heap (.ref C :: bm)) (hx : s.heap.get? a = some o) (hc : o.cls = .ref C) (hb : (Value.ref C :: bm).contains (.ref D) = b) (hK : ∀ t', K (.bool b) { s with toks := t' }) : wpAny (model prog w) A (call (.builtin "isinstance") [.ref a, .ref D]) K E s :=
  call_isinstance (S := fun _ R s => (s.heap.get? C = some (excClassObj nm q C N bs bm hdct sn sub ab col dd k0 k1 k2 k3 k5 newId) ∧ s.heap.get? D = some (excClassObj nm' q' D N' bs' bm' hdct' sn' sub' ab' col' dd' k0' k1' k2' k3' k5' newId') ∧ QTail s.heap (.ref C :: bm) ∧ s.heap.get? a = some o) ∧ ∀ t', R (.ok (.ret (.bool b))) { s with toks := t' })
    (fun _ _ _ _ s hs => by
      obtain ⟨h, g, d, t, os⟩ := s
      obtain ⟨⟨h1, h2, h3, h4⟩, hq⟩ := hs
      exact isinstance_outer (isi_own h1 h2 h3 h4 hc hb hq) (by intro e; cases e)) ⟨⟨hC, hD, T, hx⟩, hK⟩
end
section
variable {G : PG} {d : Nat} {c : Sc} {A : Around} {env : Env} {lay : Nat → Option Place} {Sys : Addr → Prop} {base : Heap} {st : St} {s : Shared}
theorem se_isexc {a : E} {t : String} {y u : Str} {z : Expr} {p p' pos : Pos} (F : Fx G d c A env lay Sys base st s) (hg : isGlob c y "isinstance" = true) (hz : noStar z = true) (ha : SE G d c a z) (ht : isGlob c u t = true) (htx : t ∈ G.xs ∨ t = "ValueError") :
    Snd G.prog G.w G.mg A (NN st.H Sys) Sys s false (eval (.Call (.Name y p) [z, .Name u p'] [] pos) env) (WE (G.cx d) (.isexc a t) st) := by
  intro Q X K E hW hK hX
  simp only [we_0, we_1, we_2, we_3, we_4, we_5, we_6, we_7, we_8, we_9, we_10, we_11, we_12, we_13, we_14, we_15, we_16, we_17, we_18, we_19, we_20, we_21, we_22, we_23, we_24, we_25, we_26, we_27, we_28, we_29, we_30, we_31, we_32, we_33, we_34, we_35, we_36, we_37] at hW
  rw [arm_eval_Call_Name']
  refine wpAny_bind (ld_bltn F hg (by decide) ?_)
  show wpAny _ _ (callWith pos (.builtin "isinstance") [] _ _) _ _ _
  refine Calls.callWith_builtin (star_plain pos env [z, .Name u p'] (by rw [List.all_cons, hz]; rfl)) ?_
  have e : backTo pos (starEach [z, .Name u p'] env) = (false, eval z env) :: [(false, eval (.Name u p') env)] := by
    rw [starEach_cons hz]; rfl
  rw [e]
  refine Calls.evalArgs_plain (Calls.spliced_cons ((ha F).weak _ X _ E hW (fun v va s₁ h₁ r₁ k₁ _ => ?_) hX))
  have F₁ := F.keeps k₁
  cases r₁ with
  | exc n1 n2 r =>
    rename_i x k _
    obtain ⟨C0, o, vs, m, g1, g2, g3, g4, g5⟩ := r
    obtain ⟨hk, hq⟩ := h₁
    have hm : m (Str.ofString k) = G.mg (Str.ofString k) := by
      obtain ⟨o1, es1, ep1, a1, d1, _, f1⟩ := g4
      obtain ⟨o2, es2, ep2, a2, d2, _, f2⟩ := F₁.top.g
      rw [a1] at a2; cases a2
      rw [d1] at d2; cases d2
      rw [← f1, ← f2]
    rw [hm] at g5
    have hkx : k ∈ G.xs := (F₁.top.exn k (by simpa using hk)).resolve_right fun q => by rw [g5] at q; cases q
    obtain ⟨C, bm, N, nm, q, bs, hdct, sn, sub, ab, col, dd, k0, k1, k2, k3, k5, mN, c1, c2, c3, c4, c5, c6, c7⟩ := F₁.top.ex k hkx
    rw [g5] at c1; cases c1
    by_cases htv : t = "ValueError"
    · subst htv
      refine Calls.spliced_cons (ld_bltn F₁ ht (by decide) (Calls.spliced_nil ?_))
      have hs : subX k "ValueError" = true := by unfold subX; rw [hk]; simp
      rw [hs] at hq
      exact call_isi_ve c2 c7 g1 g2 (hK _ _ _ hq (.bool _) k₁ nofun)
    · obtain ⟨D, bm', N', nm', q', bs', hdct', sn', sub', ab', col', dd', k0', k1', k2', k3', k5', mN', d1, d2, d3, d4, d5, d6, d7⟩ := F₁.top.ex t (htx.resolve_right htv)
      refine Calls.spliced_cons (ld_glob F₁ ht d1 (Calls.spliced_nil ?_))
      exact call_isi_own c2 d2 c7 g1 g2 (c6 t (htx.resolve_right htv) D d1) fun t' => hK _ _ _ hq (.bool _) (k₁.trans (Kp.tok _ _)) nofun
  | _ => exact h₁.elim
end
end Mine
end

section
set_option autoImplicit false
namespace Mine
open PySem

theorem tbl_mem {tbl : Tbl} : ∀ {f : String}, (tbl.map (·.1)).contains f = true → ∃ fn, tbl.lookup f = some fn := by
  induction tbl with
  | nil => intro f h; simp at h
  | cons p r ih =>
    intro f h
    obtain ⟨n, fn⟩ := p
    simp only [List.lookup_cons]
    cases e : f == n with
    | true => exact ⟨_, rfl⟩
    | false =>
      refine ih ?_
      simp only [List.map_cons, List.contains_cons, e, Bool.false_or] at h
      exact h

section
variable {G : PG} {d : Nat}

theorem both {c : Sc} {e : E} {x : Expr} (h1 : SE G d c e x) (h2 : ∀ (env : Env) (w : Sem Value), isTrue x env w = (do let v ← w; standAt x.pos; holding [v] (truthy v))) : SE G d c e x ∧ ST G d c e x := ⟨h1, st_of h1 h2⟩

mutual
theorem sndE (hc : CallSnd G d) : ∀ (e : E) (c : Sc) (x : Expr), c.fns = G.tbl.map (·.1) ∧ c.xs = G.xs ∧ c.hots = G.hots → chkE c e x = true → SE G d c e x ∧ ST G d c e x
  | .none, c, x, hf, h => by
    apply onConst_elim h; clear h; intro v kk pp h
    have e := of_decide_eq_true h
    subst e
    · exact both (fun {A env lay Sys base st s} F Q X K E hW hK hX => by
        simp only [we_0, we_1, we_2, we_3, we_4, we_5, we_6, we_7, we_8, we_9, we_10, we_11, we_12, we_13, we_14, we_15, we_16, we_17, we_18, we_19, we_20, we_21, we_22, we_23, we_24, we_25, we_26, we_27, we_28, we_29, we_30, we_31, we_32, we_33, we_34, we_35, we_36, we_37] at hW; exact snd_none Q X K E hW hK hX) fun _ _ => rfl
  | .bool b, c, x, hf, h => by
    apply onConst_elim h; clear h; intro v kk pp h
    have e := of_decide_eq_true h
    subst e
    · exact both (fun {A env lay Sys base st s} F Q X K E hW hK hX => by
        simp only [we_0, we_1, we_2, we_3, we_4, we_5, we_6, we_7, we_8, we_9, we_10, we_11, we_12, we_13, we_14, we_15, we_16, we_17, we_18, we_19, we_20, we_21, we_22, we_23, we_24, we_25, we_26, we_27, we_28, we_29, we_30, we_31, we_32, we_33, we_34, we_35, we_36, we_37] at hW; exact snd_bool Q X K E hW hK hX) fun _ _ => rfl
  | .int i, c, x, hf, h => by
    apply onConst_elim h; clear h; intro v kk pp h
    have e := of_decide_eq_true h
    subst e
    · exact both (fun {A env lay Sys base st s} F Q X K E hW hK hX => by
        simp only [we_0, we_1, we_2, we_3, we_4, we_5, we_6, we_7, we_8, we_9, we_10, we_11, we_12, we_13, we_14, we_15, we_16, we_17, we_18, we_19, we_20, we_21, we_22, we_23, we_24, we_25, we_26, we_27, we_28, we_29, we_30, we_31, we_32, we_33, we_34, we_35, we_36, we_37] at hW; exact snd_int Q X K E hW hK hX) fun _ _ => rfl
  | .str u, c, x, hf, h => by
    apply onConst_elim h; clear h; intro v kk pp h
    · apply and3_elim h; clear h; intro e0_ h1 h2
      try simp only [decide_eq_true_eq] at e0_
      try simp only [decide_eq_true_eq] at h1
      try simp only [decide_eq_true_eq] at h2
      subst e0_
      have h : (True ∧ u.length ≤ sizeLine) ∧ u.cps.all (· < 0x110000) = true := ⟨⟨trivial, h1⟩, h2⟩
      have ho : SOk u := ⟨h.1.2, fun c hc => by
        have := h.2
        rw [← Array.all_toList, List.all_eq_true] at this
        simpa using this c hc⟩
      exact both (fun {A env lay Sys base st s} F Q X K E hW hK hX => by
        simp only [we_0, we_1, we_2, we_3, we_4, we_5, we_6, we_7, we_8, we_9, we_10, we_11, we_12, we_13, we_14, we_15, we_16, we_17, we_18, we_19, we_20, we_21, we_22, we_23, we_24, we_25, we_26, we_27, we_28, we_29, we_30, we_31, we_32, we_33, we_34, we_35, we_36, we_37] at hW; exact snd_str ho Q X K E hW hK hX) fun _ _ => rfl
  | .var i, c, x, hf, h => by
    apply onName_elim h; clear h; intro y p h
    · exact both (fun {A env lay Sys base st s} F => se_var F h) fun _ _ => rfl
  | .glob g, c, x, hf, h => by
    apply onName_elim h; clear h; intro y p h
    · exact both (fun {A env lay Sys base st s} F => se_glob F h) fun _ _ => rfl
  | .bin op a b, c, x, hf, h => by
    apply onBin_elim h; clear h; intro l o r p h
    · apply and3_elim h; clear h; intro e0_ ha hb
      try simp only [decide_eq_true_eq] at e0_
      try simp only [decide_eq_true_eq] at ha
      try simp only [decide_eq_true_eq] at hb
      subst e0_
      exact both (fun {A env lay Sys base st s} F => se_bin F (sndE hc a c _ hf ha).1 (sndE hc b c _ hf hb).1) fun _ _ => rfl
  | .neg a, c, x, hf, h => by
    apply onUn_elim h; clear h; intro o y p h
    · apply and2_elim h; clear h; intro e0_ ha
      try simp only [decide_eq_true_eq] at e0_
      try simp only [decide_eq_true_eq] at ha
      subst e0_
      exact both (fun {A env lay Sys base st s} F => se_neg F (sndE hc a c _ hf ha).1) fun _ _ => rfl
  | .not a, c, x, hf, h => by
    apply onUn_elim h; clear h; intro o y p h
    · apply and2_elim h; clear h; intro e0_ ha
      try simp only [decide_eq_true_eq] at e0_
      try simp only [decide_eq_true_eq] at ha
      subst e0_
      exact ⟨fun {A env lay Sys base st s} F => se_not F (sndE hc a c _ hf ha).1, st_not (sndE hc a c _ hf ha).2⟩
  | .and a b, c, x, hf, h => by
    apply onBool_elim h; clear h; intro o ys p h
    apply and2_elim h; clear h; intro h1 h2
    have e := of_decide_eq_true h1
    subst e
    rcases andT_inv h2 with ⟨y, z, rfl, ha, hb⟩ | ⟨y, z, u, r, rfl, ha, hb⟩
    · exact ⟨fun {A env lay Sys base st s} F => se_and F (sndE hc a c _ hf ha).1 (sndE hc b c _ hf hb).1, st_and2 (sndE hc a c _ hf ha).2 (sndE hc b c _ hf hb).2⟩
    · exact ⟨fun {A env lay Sys base st s} F => se_andN F (sndE hc a c _ hf ha).1 (sndE hc b c _ hf hb).1, st_and (sndE hc a c _ hf ha).2 (sndE hc b c _ hf hb).2⟩
  | .or a b, c, x, hf, h => by
    apply onBool_elim h; clear h; intro o ys p h
    apply and2_elim h; clear h; intro h1 h2
    have e := of_decide_eq_true h1
    subst e
    rcases andT_inv h2 with ⟨y, z, rfl, ha, hb⟩ | ⟨y, z, u, r, rfl, ha, hb⟩
    · exact ⟨fun {A env lay Sys base st s} F => se_or F (sndE hc a c _ hf ha).1 (sndE hc b c _ hf hb).1, st_or2 (sndE hc a c _ hf ha).2 (sndE hc b c _ hf hb).2⟩
    · exact ⟨fun {A env lay Sys base st s} F => se_orN F (sndE hc a c _ hf ha).1 (sndE hc b c _ hf hb).1, st_or (sndE hc a c _ hf ha).2 (sndE hc b c _ hf hb).2⟩
  | .ite t a b, c, x, hf, h => by
    apply onIf_elim h; clear h; intro y z u p h
    · apply and3_elim h; clear h; intro ht ha hb
      exact ⟨fun {A env lay Sys base st s} F => se_ite F (sndE hc t c _ hf ht).2 (sndE hc a c _ hf ha).1 (sndE hc b c _ hf hb).1, st_ite (sndE hc t c _ hf ht).2 (sndE hc a c _ hf ha).2 (sndE hc b c _ hf hb).2⟩
  | .list es, c, x, hf, h => by
    apply onList_elim h; clear h; intro xs p h
    · exact both (fun {A env lay Sys base st s} F => se_list F (sndEs hc es c _ hf h)) fun _ _ => rfl
  | .tup es, c, x, hf, h => by
    apply onTup_elim h; clear h; intro xs k p h
    · exact both (fun {A env lay Sys base st s} F => se_tup F (sndEs hc es c _ hf h)) fun _ _ => rfl
  | .cmp a ch, c, x, hf, h => by
    apply onCmp_elim h; clear h; intro l o r p h
    · apply and3_elim h; clear h; intro hm ha hb
      try simp only [Bool.not_eq_true'] at hm
      try simp only [Bool.not_eq_true'] at ha
      try simp only [Bool.not_eq_true'] at hb
      exact ⟨fun {A env lay Sys base st s} F => se_cmp F (sndE hc a c _ hf ha).1 (sndCh hc ch c _ _ hf hb) hm, st_cmp (sndE hc a c _ hf ha).1 (sndCh hc ch c _ _ hf hb) hm⟩
  | .sub a i, c, x, hf, h => by
    apply onSub_elim h; clear h; intro y z p h
    · apply and3_elim h; clear h; intro ha hi hp
      exact both (fun {A env lay Sys base st s} F => se_sub F (sndE hc a c _ hf ha).1 (sndE hc i c _ hf hi).1 hp) fun _ _ => rfl
  | .slice a lo hi, c, x, hf, h => by
    apply onSub_elim h; clear h; intro y z p h
    apply onSlice_elim h; clear h; intro l h' sp p' h
    · apply and4_elim h; clear h; intro hsn ha hl hh
      cases sp with
      | some _ => exact ff hsn
      | none =>
      have p1 : SP G d c lo l := by
        cases l with
        | none => cases lo <;> first | rfl | exact ff hl
        | some l => exact (sndE hc lo c _ hf hl).1
      have p2 : SP G d c hi h' := by
        cases h' with
        | none => cases hi <;> first | rfl | exact ff hh
        | some l => exact (sndE hc hi c _ hf hh).1
      exact both (fun {A env lay Sys base st s} F => se_slice F (sndE hc a c _ hf ha).1 p1 p2) fun _ _ => rfl
  | .call f es, c, x, hf, h => by
    apply onCallN_elim h; clear h; intro y p xs q h
    · apply and4_elim h; clear h; intro h0 hg hm hs
      obtain ⟨z, r, rfl⟩ := some1_inv h0
      exact both (fun {A env lay Sys base st s} F => se_call hc F hg (sndEs hc es c _ hf hs) (tbl_mem (hf.1 ▸ hm)) hm hf.2.2) fun _ _ => rfl
  | .isinst a t, c, x, hf, h => by
    apply onCallN_elim h; clear h; intro y p xs q h
    apply two_elim h; clear h; intro z n h
    apply onName_elim h; clear h; intro u p' h
    · apply and5_elim h; clear h; intro hg hz ha ht hp
      exact both (fun {A env lay Sys base st s} F => se_isi F hg hz (sndE hc a c _ hf ha).1 ht (tyNames hp).1 (tyNames hp).2) fun _ _ => rfl
  | .len a, c, x, hf, h => by
    apply onCallN_elim h; clear h; intro y p xs q h
    apply one_elim h; clear h; intro z h
    · apply and3_elim h; clear h; intro hg hz ha
      exact both (fun {A env lay Sys base st s} F => se_len F hg hz (sndE hc a c _ hf ha).1) fun _ _ => rfl
  | .sum a, c, x, hf, h => by
    apply onCallN_elim h; clear h; intro y p xs q h
    apply one_elim h; clear h; intro z h
    apply and3_elim h; clear h; intro hg hz ha
    exact both (fun {A env lay Sys base st s} F => se_sum F hg hz (sndE hc a c _ hf ha).1) fun _ _ => rfl
  | .max2 a b, c, x, hf, h => by
    apply onCallN_elim h; clear h; intro y p xs q h
    apply two_elim h; clear h; intro z u h
    apply and5_elim h; clear h; intro hg hz hu ha hb
    exact both (fun {A env lay Sys base st s} F => se_max2 F hg hz hu (sndE hc a c _ hf ha).1 (sndE hc b c _ hf hb).1) fun _ _ => rfl
  | .min2 a b, c, x, hf, h => by
    apply onCallN_elim h; clear h; intro y p xs q h
    apply two_elim h; clear h; intro z u h
    apply and5_elim h; clear h; intro hg hz hu ha hb
    exact both (fun {A env lay Sys base st s} F => se_min2 F hg hz hu (sndE hc a c _ hf ha).1 (sndE hc b c _ hf hb).1) fun _ _ => rfl
  | .maxl a, c, x, hf, h => ff h
  | .maxd a b, c, x, hf, h => ff h
  | .strOf a, c, x, hf, h => ff h
  | .intOf a, c, x, hf, h => by
    apply onCallN_elim h; clear h; intro y p xs q h
    apply one_elim h; clear h; intro z h
    apply and3_elim h; clear h; intro hg hz ha
    exact both (fun {A env lay Sys base st s} F => se_int F hg hz (sndE hc a c _ hf ha).1) fun _ _ => rfl
  | .tupOf a, c, x, hf, h => ff h
  | .listOf it, c, x, hf, h => by
    apply onCallN_elim h; clear h; intro y p xs q h
    apply one_elim h; clear h; intro z h
    · apply and5_elim h; clear h; intro hg hz hl hi hco
      try simp only [Bool.not_eq_true'] at hg
      try simp only [Bool.not_eq_true'] at hz
      try simp only [Bool.not_eq_true'] at hl
      try simp only [Bool.not_eq_true'] at hi
      try simp only [Bool.not_eq_true'] at hco
      exact both (fun {A env lay Sys base st s} F => (sndI hc it c _ hf hi).2 hl hco F hg hz) fun _ _ => rfl
  | .join sp a, c, x, hf, h => by
    apply onCall_elim h; clear h; intro g xs ks pos h
    apply and2_elim h; clear h; intro hks h
    apply one_elim h; clear h; intro z h
    apply onAttr_elim h; clear h; intro o n ap h
    apply and6_elim h; clear h; intro e0_ hz hl hs hst ha
    try simp only [decide_eq_true_eq] at e0_
    try simp only [decide_eq_true_eq] at hz
    try simp only [decide_eq_true_eq] at hl
    try simp only [decide_eq_true_eq] at hs
    try simp only [decide_eq_true_eq] at hst
    try simp only [decide_eq_true_eq] at ha
    subst e0_
    cases ks with
    | cons => exact ff hks
    | nil =>
    cases sp with
    | str u =>
      apply onConst_elim hs; clear hs; intro v kk pp hs
      apply and3_elim hs; clear hs; intro e0_ h1 h2
      try simp only [decide_eq_true_eq] at e0_
      try simp only [decide_eq_true_eq] at h1
      try simp only [decide_eq_true_eq] at h2
      subst e0_
      have ho : SOk u := ⟨h1, fun c hc => by
        have := h2
        rw [← Array.all_toList, List.all_eq_true] at this
        simpa using this c hc⟩
      exact both (fun {A env lay Sys base st s} F => se_join F hl ho hz (sndE hc a c _ hf ha).1) fun _ _ => rfl
    | _ => exact ff hst
  | .get a b e, c, x, hf, h => by
    apply onCall_elim h; clear h; intro g xs ks cp h
    apply and2_elim h; clear h; intro hk h
    apply two_elim h; clear h; intro z u h
    apply onAttr_elim h; clear h; intro o n ap h
    cases ks with
    | cons => exact ff hk
    | nil =>
    apply and8_elim h; clear h; intro e0_ h2 h3 h4 h5 h6 h7 h8
    try simp only [decide_eq_true_eq] at e0_
    try simp only [decide_eq_true_eq] at h2
    try simp only [decide_eq_true_eq] at h3
    try simp only [decide_eq_true_eq] at h4
    try simp only [decide_eq_true_eq] at h5
    try simp only [decide_eq_true_eq] at h6
    try simp only [decide_eq_true_eq] at h7
    try simp only [decide_eq_true_eq] at h8
    subst e0_
    exact both (fun {A env lay Sys base st s} F => se_get F (sndE hc a c _ hf h6).1 (sndE hc b c _ hf h7).1 (sndE hc e c _ hf h8).1 h3 h4 h5 h2) fun _ _ => rfl
  | .dict0, c, x, hf, h => ff h
  | .isexc a t, c, x, hf, h => by
    apply onCallN_elim h; clear h; intro y p xs q h
    apply two_elim h; clear h; intro z n h
    apply onName_elim h; clear h; intro u p' h
    · apply and5_elim h; clear h; intro hg hz ha ht hp
      try simp only [Bool.or_eq_true, decide_eq_true_eq] at hg
      try simp only [Bool.or_eq_true, decide_eq_true_eq] at hz
      try simp only [Bool.or_eq_true, decide_eq_true_eq] at ha
      try simp only [Bool.or_eq_true, decide_eq_true_eq] at ht
      try simp only [Bool.or_eq_true, decide_eq_true_eq] at hp
      exact both (fun {A env lay Sys base st s} F => se_isexc F hg hz (sndE hc a c _ hf ha).1 ht (hp.imp (fun q => by rw [← hf.2.1]; simpa using q) id)) fun _ _ => rfl
  | .only a, c, x, hf, h => ff h
  | .attr a n, c, x, hf, h => by
    apply onAttr_elim h; clear h; intro o m p h
    apply and2_elim h; clear h; intro h h3
    apply and2_elim h; clear h; intro h1 h2
    cases of_decide_eq_true h1
    exact both (fun {A env lay Sys base st s} F => se_attr F (sndE hc a c _ hf h3).1 h2) fun _ _ => rfl
  | .new f es, c, x, hf, h => by
    apply onCallN_elim h; clear h; intro y p xs q h
    apply and2_elim h; clear h; intro h h3
    apply and2_elim h; clear h; intro h1 h2
    obtain ⟨z, r, rfl⟩ := some1_inv h1
    exact both (fun {A env lay Sys base st s} F => se_new F h2 (sndEs hc es c _ hf h3)) fun _ _ => rfl
  | .comp elt t it, c, x, hf, h => by
    apply onLC_elim h; clear h; intro y gs sc p h
    apply one_elim h; clear h; intro g h
    apply and2_elim h; clear h; intro h0 h
    apply and2_elim h0; clear h0; intro hz h0
    obtain ⟨tg, iter, ifs, ias⟩ := g
    have e0 := of_decide_eq_true h0
    simp only at hz e0 h
    cases ifs with
    | cons => exact ff hz
    | nil =>
    subst e0
    split at h
    · rename_i xs hx
      have hf' : (inner c xs sc.names).fns = G.tbl.map (·.1) ∧ (inner c xs sc.names).xs = G.xs ∧ (inner c xs sc.names).hots = G.hots := hf
      apply and7_elim h; clear h; intro h1 h2 h3 h4 h0 h5 h6
      try simp only [Bool.not_eq_true'] at h1
      try simp only [Bool.not_eq_true'] at h2
      try simp only [Bool.not_eq_true'] at h3
      try simp only [Bool.not_eq_true'] at h4
      try simp only [Bool.not_eq_true'] at h0
      try simp only [Bool.not_eq_true'] at h5
      try simp only [Bool.not_eq_true'] at h6
      exact both (fun {A env lay Sys base st s} F => se_comp F ((sndI hc it c _ hf h5).1 (ezOk_walk h0)) h4 (ezOk_inv h0) (tableOk_eq h2) h1 h3 (sndE hc elt _ _ hf' h6).1) fun _ _ => rfl
    · cases h
  | .compIf elt t it cd, c, x, hf, h => ff h
theorem sndEs (hc : CallSnd G d) : ∀ (es : Es) (c : Sc) (xs : List Expr), c.fns = G.tbl.map (·.1) ∧ c.xs = G.xs ∧ c.hots = G.hots → chkEs c es xs = true → SEs G d c es xs
  | .nil, c, xs, hf, h => by
    cases xs with
    | nil => exact ses_nil
    | cons => exact ff h
  | .cons e es, c, xs, hf, h => by
    cases xs with
    | nil => exact ff h
    | cons x r =>
      apply and2_elim h; clear h; intro h h3
      apply and2_elim h; clear h; intro h1 h2
      exact ses_cons h1 (sndE hc e c _ hf h2).1 (sndEs hc es c _ hf h3)
theorem sndCh (hc : CallSnd G d) : ∀ (ch : Ch) (c : Sc) (ops : List CmpOp) (xs : List Expr), c.fns = G.tbl.map (·.1) ∧ c.xs = G.xs ∧ c.hots = G.hots → chkCh c ch ops xs = true → SCh G d c ch ops xs
  | .one op e, c, ops, xs, hf, h => by
    apply one_elim h; clear h; intro o h
    apply one_elim h; clear h; intro x h
    apply and2_elim h; clear h; intro h1 h2
    have e1 := of_decide_eq_true h1
    subst e1
    exact sch_one (sndE hc e c _ hf h2).1
  | .more op e ch, c, ops, xs, hf, h => by
    rcases ops with _ | ⟨o, ops⟩
    · exact ff h
    rcases xs with _ | ⟨x, xs⟩
    · exact ff h
    apply and2_elim h; clear h; intro h h3
    apply and2_elim h; clear h; intro h h2
    apply and2_elim h; clear h; intro h h1
    apply and2_elim h; clear h; intro ha hb
    have e1 := of_decide_eq_true h1
    subst e1
    obtain ⟨o2, ops, rfl⟩ := some1_inv ha
    obtain ⟨x2, xs, rfl⟩ := some1_inv hb
    exact sch_more (sndE hc e c _ hf h2).1 (sndCh hc ch c _ _ hf h3)
theorem sndI (hc : CallSnd G d) : ∀ (it : It) (c : Sc) (x : Expr), c.fns = G.tbl.map (·.1) ∧ c.xs = G.xs ∧ c.hots = G.hots → chkI c it x = true → (walk it = true → SI G d c it x) ∧ (listable it = true → c.hot = false → SL G d c it x)
  | .seq e, c, x, hf, h => by
    exact ⟨fun _ => si_seq (sndE hc e c _ hf h).1,
      fun q => ff q⟩
  | .rev e, c, x, hf, h => by
    apply onCallN_elim h; clear h; intro y p xs q h
    apply one_elim h; clear h; intro z h
    · apply and3_elim h; clear h; intro h1 h2 h3
      exact ⟨
        fun _ => si_rev h1 h2 (sndE hc e c _ hf h3).1,
        fun q => ff q⟩
  | .range1 e, c, x, hf, h => by
    apply onCallN_elim h; clear h; intro y p xs q h
    apply one_elim h; clear h; intro z h
    · apply and3_elim h; clear h; intro h1 h2 h3
      exact ⟨fun _ => si_range1 h1 h2 (sndE hc e c _ hf h3).1,
        fun _ hco => sl_range1 hco h1 h2 (sndE hc e c _ hf h3).1⟩
  | .range2 a b, c, x, hf, h => ff h
  | .range3 a b e, c, x, hf, h => ff h
  | .enum e, c, x, hf, h => ff h
  | .keys e, c, x, hf, h => by
    replace h := (Bool.and_eq_true _ _).mp h
    exact ⟨fun _ => si_keys (by simpa using h.2) (sndE hc e c _ hf h.1).1, fun q => ff q⟩
  | .zip a b, c, x, hf, h => ff h
end
end

end Mine
end

section
set_option autoImplicit false
namespace Mine
open PySem

/-- the tracked things grew by new ones -/
structure Gr (H H' : AH) (s : Shared) : Prop where
  stay : ∀ b, H b ≠ none → H' b = H b
  new : ∀ b, H' b ≠ none → H b = none → s.heap.get? b = none
theorem Gr.refl (H : AH) (s : Shared) : Gr H H s := ⟨fun _ _ => rfl, fun _ h e => absurd e h⟩
theorem Gr.trans {Z : Addr → Prop} {H H' H'' : AH} {s s' : Shared} (x : Gr H H' s) (y : Gr H' H'' s') (k : Kp Z s s') : Gr H H'' s where
  stay := fun b h => by
    have := x.stay b h
    rw [y.stay b (by rw [this]; exact h), this]
  new := fun b h e => by
    cases q : H' b with
    | none => exact fresh_keeps k (y.new b h q)
    | some o => exact x.new b (by rw [q]; simp) e
theorem upd_self (H : AH) (a : Nat) (o : AO) : H.upd a o a = some o := by simp [AH.upd]
theorem upd_other (H : AH) {a b : Nat} (o : AO) (h : b ≠ a) : H.upd a o b = H b := by simp [AH.upd, h]

theorem RV.grow {H H' : AH} {Sys Z : Addr → Prop} {s s' : Shared} {v : V} {x : Value} (zs : ∀ b, Z b → Sys b) (r : RV (NN H Sys) s.heap v x) (g : Gr H H' s) (k : HW Z s.heap s'.heap) : RV (NN H' Sys) s'.heap v x :=
  r.gen (fun b q => by
    rcases q with q | q
    · cases e : H b with
      | none => exact .inr (g.new b q e)
      | some o => exact .inl (.inl (by rw [e]; simp))
    · exact .inl (.inr q)) fun b o nb e => (k b o e).1 fun q => nb (.inr (zs b q))
/-- a new thing is tracked from now on -/
theorem Sim.track {hsh : HFn} {T : Heap → Prop} {lay : Nat → Option Place} {Sys Z : Addr → Prop} {base : Heap} {st : St} {s s' : Shared} {a : Addr} {o : AO} (S : Sim hsh T lay Sys Z base st s.heap) (k : HW Z s.heap s'.heap) (hf : s.heap.get? a = none) (ro : RO hsh (NN (st.H.upd a o) Sys) s'.heap a o) :
    Sim hsh T lay Sys Z base { st with H := st.H.upd a o } s'.heap := by
  have hfa : st.H a = none := S.fresh hf
  have g : Gr st.H (st.H.upd a o) s := ⟨fun b h => upd_other _ _ (fun e => h (e ▸ hfa)), fun b h e => by
    by_cases q : b = a
    · subst q; exact hf
    · rw [upd_other _ _ q] at h; exact absurd e h⟩
  have hN : ∀ b, NN (st.H.upd a o) Sys b → NN st.H Sys b ∨ s.heap.get? b = none := fun b q => by
    rcases q with q | q
    · cases e : st.H b with
      | none => exact .inr (g.new b q e)
      | some o => exact .inl (.inl (by rw [e]; simp))
    · exact .inl (.inr q)
  refine ⟨S.keep.trans k, S.zs, S.top, fun i v p a' b => ?_, fun i p a => (S.ok i p a).kz k, S.inj, fun i p h => ?_, fun b o' e => ?_, fun b h hB => ?_, (S.kz k).live, S.ent, fun b q => (upd_other _ _ fun e : b = a => S.live b q (by rw [e]; exact hf)).trans (S.dis b q)⟩
  · obtain ⟨val, x, y⟩ := S.vals i v p a' b
    exact ⟨val, x.kz k, y.grow S.zs g k⟩
  · have hs := S.sys i p h
    refine ⟨hs.1, hs.2.1, ?_⟩
    show st.H.upd a o p.addr = none
    rw [upd_other _ _ (fun e : p.addr = a => S.live _ hs.1 (by rw [e]; exact hf))]; exact hs.2.2
  · by_cases q : b = a
    · subst q
      have e : st.H.upd b o b = some o' := e
      rw [upd_self] at e; cases e; exact ro
    · have e : st.H.upd a o b = some o' := e
      rw [upd_other _ _ q] at e
      exact (S.objs b o' e).gen hN (fun b o nb e => (k b o e).1 fun q => nb (.inr (S.zs b q))) fun o e'' => (k b o e'').1 fun q => by rw [S.dis b (S.zs b q)] at e; cases e
  · by_cases q : b = a
    · subst q
      exact S.keep.ext hf
    · have h : st.H.upd a o b ≠ none := h
      rw [upd_other _ _ q] at h; exact S.own b h hB

theorem Sim.freshB {hsh : HFn} {T : Heap → Prop} {lay : Nat → Option Place} {Sys Z : Addr → Prop} {base : Heap} {st : St} {h : Heap} (S : Sim hsh T lay Sys Z base st h) {a : Addr} (e : h.get? a = none) : st.B a = none := by
  cases q : st.B a with
  | none => rfl
  | some o =>
    obtain ⟨ob, e'⟩ := S.ent a (by rw [q]; simp)
    rw [S.keep.ext e] at e'; cases e'

section
variable {G : PG} {d : Nat} {c : Sc} {A : Around} {env : Env} {lay : Nat → Option Place} {Sys : Addr → Prop} {base : Heap} {st : St} {s : Shared}

noncomputable abbrev SA (G : PG) (d : Nat) (c : Sc) (a : Mine.A) (x : Expr) : Prop :=
  ∀ {A : Around} {env : Env} {lay : Nat → Option Place} {Sys : Addr → Prop} {base : Heap} {st : St} {s : Shared}, Fx G d c A env lay Sys base st s →
    ∀ (Q : V → AH → Prop) (X : String → Prop) (K : Value → Shared → Prop) (E : Value → Shared → Prop), WA (G.cx d) a st Q X →
      (∀ v H' val s', Q v H' → Fx G d c A env lay Sys base { st with H := H' } s' → RV (NN H' Sys) s'.heap v val → Kp (FZ A Sys) s s' → Gr st.H H' s → K val s') → (∀ e s', Rz G.mg A Sys s X e s' → E e s') →
      wpAny (model G.prog G.w) A (eval x env) K E s

noncomputable abbrev SAs (G : PG) (d : Nat) (c : Sc) (as : As) (xs : List Expr) : Prop :=
  xs.all noStar = true ∧ ∀ {A : Around} {env : Env} {lay : Nat → Option Place} {Sys : Addr → Prop} {base : Heap} {st : St} {s : Shared}, Fx G d c A env lay Sys base st s →
    ∀ (pos : Pos) (Q : List V → AH → Prop) (X : String → Prop) (K : List Value → Shared → Prop) (E : Value → Shared → Prop), WAs (G.cx d) as st Q X →
      (∀ vs H' vals s', Q vs H' → Fx G d c A env lay Sys base { st with H := H' } s' → RVs (NN H' Sys) s'.heap vs vals → Kp (FZ A Sys) s s' → Gr st.H H' s → K vals s') → (∀ e s', Rz G.mg A Sys s X e s' → E e s') →
      wpAny (model G.prog G.w) A (spliced (backTo pos (starEach xs env))) K E s

theorem sa_pure {e : E} {x : Expr} (he : SE G d c e x) : SA G d c (.pure e) x := by
  intro A env lay Sys base st s F Q X K E hW hK hX
  simp only [wa_0, wa_1, wa_2, wa_3, wa_4, wa_5] at hW
  exact (he F).weak _ X _ E hW (fun v val s' q r k _ => hK v st.H val s' q (F.keeps k) r k (Gr.refl _ _)) hX
theorem sa_thaw {e : E} {x : Expr} (he : SE G d c e x) (hf : isFresh e = true) : SA G d c (.thaw e) x := by
  intro A env lay Sys base st s F Q X K E hW hK hX
  simp only [wa_0, wa_1, wa_2, wa_3, wa_4, wa_5] at hW
  refine he F _ X _ E hW (fun v val s' q r k fr => ?_) hX
  split at q
  · rename_i vs
    cases r with
    | lst h1 h2 h3 h4 =>
      rename_i a xs n
      obtain ⟨hfa, hv⟩ := fr hf a rfl
      obtain ⟨ys, m, hl, hz, hr⟩ := hv vs rfl
      have S' := F.sim.track (o := .list vs) k.hw hfa (.list hl hz (hr.less fun b q => by
        rcases q with q | q
        · by_cases e : b = a
          · exact .inr e
          · rw [upd_other _ _ e] at q; exact .inl (.inl q)
        · exact .inl (.inr q)))
      refine hK _ _ _ _ (q a ⟨F.sim.fresh hfa, F.sim.freshB hfa⟩) ⟨⟨F.rm, F.eo, F.us, S', F.own, F.cold⟩, F.fr.kz k.hw, F.hd.imp id fun q => q.kz k.hw⟩ (.ref a) k ⟨fun b h => upd_other _ _ (fun e => h (e ▸ F.sim.fresh hfa)), fun b h e => ?_⟩
      by_cases q : b = a
      · subst q; exact hfa
      · rw [upd_other _ _ q] at h; exact absurd e h
  · exact q.elim
theorem sa_dict {pos : Pos} : SA G d c .dict (.Dict [] [] pos) := by
  intro A env lay Sys base st s F Q X K E hW hK hX
  refine wpAny_Dict_empty ?_
  have hf := fresh_size s.heap
  have hsm : (s.heap.objs.size == sysModules) = false := by
    obtain ⟨o, es, ep, ho, _⟩ := F.top.g
    have := Heap.lt_size ho
    have h3 : 3 < s.heap.objs.size := this
    exact beq_eq_false_iff_ne.mpr (Nat.ne_of_gt (Nat.lt_of_lt_of_le (by decide : 1 < 4) h3))
  have S' := F.sim.track (s' := { s with heap := s.heap.push { cls := .type "dict", data := .dict #[] } }) (o := .dict []) (.of (HK.push _ _)) hf
    (.dict (xs := []) (Heap.get?_push_size _ rfl) rfl List.nodup_nil (Nat.zero_le _) rfl nofun .nil hsm)
  refine hK _ _ _ _ (hW _ ⟨F.sim.fresh hf, F.sim.freshB hf⟩) ⟨⟨F.rm, F.eo, F.us, S', F.own, F.cold⟩, F.fr.kz (.of (Z := Sys) (HK.push _ _)), F.hd.imp id fun q => q.kz (.of (HK.push _ _))⟩ (.ref _) (Kp.ofH (HK.push _ _)) ⟨fun b h => upd_other _ _ (fun e => h (e ▸ F.sim.fresh hf)), fun b h e => ?_⟩
  by_cases q : b = s.heap.objs.size
  · rw [q]; exact hf
  · rw [upd_other _ _ q] at h; exact absurd e h
theorem sa_new {cn : String} {es : Es} {y : Str} {z : Expr} {xs : List Expr} {p pos : Pos} (hg : isGlob c y cn = true) (h : SEs G d c es (z :: xs)) : SA G d c (.new cn es) (.Call (.Name y p) (z :: xs) [] pos) := by
  intro A env lay Sys base st s F Q X K E hW hK hX
  simp only [wa_0, wa_1, wa_2, wa_3, wa_4, wa_5] at hW
  split at hW
  · rename_i k n fs hlk
    refine ev_new F hg h hlk hW (fun vs x dx ys h₁ s' q k₁ fx fd hne i o r fd₁ kk => ?_) hX
    have hfd := F.sim.fresh fd
    have hu : ∀ b, (st.H.upd dx (.inst k (fs.map (·.1)) (fs.map fun f => iniV vs f.2))) b ≠ none → st.H b = none → s.heap.get? b = none := fun b hb e => by
      by_cases q : b = dx
      · rw [q]; exact fd
      · rw [upd_other _ _ q] at hb; exact absurd e hb
    have g : Gr st.H (st.H.upd dx (.inst k (fs.map (·.1)) (fs.map fun f => iniV vs f.2))) s := ⟨fun b h => upd_other _ _ (fun e => h (e ▸ hfd)), hu⟩
    have nx : ¬ NN (st.H.upd dx (.inst k (fs.map (·.1)) (fs.map fun f => iniV vs f.2))) Sys x := fun q => by
      rcases q with q | q
      · rw [upd_other _ _ hne] at q; exact q (F.sim.fresh fx)
      · exact F.sim.live x q fx
    -- the parts stood ahead
    have r' : RVs (NN (st.H.upd dx (.inst k (fs.map (·.1)) (fs.map fun f => iniV vs f.2))) Sys) s'.heap (fs.map fun f => iniV vs f.2) ys := r.gen (fun b q => by
      rcases q with q | q
      · by_cases e : b = dx
        · exact .inr (e ▸ fd₁)
        · rw [upd_other _ _ e] at q; exact .inl (.inl q)
      · exact .inl (.inr q)) fun b o _ e => kk b o e
    have S' := F.sim.track (s := s) (s' := s') (o := .inst k (fs.map (·.1)) (fs.map fun f => iniV vs f.2)) k₁.hw fd (.inst o r')
    exact hK _ _ _ _ (q dx ⟨hfd, F.sim.freshB fd⟩) ⟨⟨F.rm, F.eo, F.us, S', F.own, F.cold⟩, F.fr.kz k₁.hw, F.hd.imp id fun q => q.kz k₁.hw⟩ (.iref nx i) k₁ g
  · exact hW.elim
theorem sas_nil : SAs G d c .nil [] :=
  ⟨rfl, fun {A env lay Sys base st s} F pos Q X K E hW hK _ => wpAny_items_nil (hK [] st.H [] s (by simpa [was_0, was_1] using hW) F .nil (Kp.refl s) (Gr.refl _ _))⟩
theorem sas_cons {a : Mine.A} {as : As} {x : Expr} {xs : List Expr} (hn : noStar x = true) (ha : SA G d c a x) (has : SAs G d c as xs) : SAs G d c (.cons a as) (x :: xs) := by
  refine ⟨by simp [hn, has.1], fun {A env lay Sys base st s} F pos Q X K E hW hK hX => ?_⟩
  simp only [was_0, was_1] at hW
  refine wpAny_items_cons (ha F _ X _ E hW (fun v H' va s₁ h₁ F₁ r₁ k₁ g₁ => ?_) hX) (starEach_cons hn)
  exact has.2 F₁ pos _ X _ E h₁ (fun vs H'' vals s' q F' r k g => hK (v :: vs) H'' (va :: vals) s' q F' (.cons (r₁.grow F.sim.zs g k.hw) r) (k₁.trans k) (g₁.trans g k₁)) fun e s' q => hX e s' (Rz.trans k₁ q)
theorem sa_list {as : As} {xs : List Expr} {pos : Pos} (h : SAs G d c as xs) : SA G d c (.list as) (.List xs pos) := by
  intro A env lay Sys base st s F Q X K E hW hK hX
  simp only [wa_0, wa_1, wa_2, wa_3, wa_4, wa_5] at hW
  refine wpAny_List (h.2 F pos _ X _ E hW (fun vs H' vals s₁ h₁ F₁ r₁ k₁ g₁ => ?_) hX)
  have hl := r₁.length
  have hf := fresh_size s₁.heap
  refine ⟨by rw [← hl]; exact h₁.1, ?_⟩
  have hu : ∀ b, (H'.upd s₁.heap.objs.size (.list vs)) b ≠ none → H' b = none → s₁.heap.get? b = none := fun b hb e => by
    by_cases q : b = s₁.heap.objs.size
    · rw [q]; exact hf
    · rw [upd_other _ _ q] at hb; exact absurd e hb
  have hfa : H' s₁.heap.objs.size = none := F₁.sim.fresh hf
  have r' : RVs (NN H' Sys) s₁.heap vs vals.toArray.toList := by simpa using r₁
  have S' := F₁.sim.track (s := s₁) (s' := { s₁ with heap := s₁.heap.push { cls := .type "list", data := .seq vals.toArray } }) (o := .list vs) (.of (HK.push _ _)) hf
    (.list (IsL.new _ _) (by simpa [← hl] using h₁.1) (r'.gen (fun b q => by
        rcases q with q | q
        · cases e : H' b with
          | none => exact .inr (hu b q e)
          | some o => exact .inl (.inl (by rw [e]; simp))
        · exact .inl (.inr q)) (fun b o _ e => HK.push _ _ b o e)))
  have g : Gr H' (H'.upd s₁.heap.objs.size (.list vs)) s₁ := ⟨fun b h => upd_other _ _ (fun e => h (e ▸ hfa)), hu⟩
  exact hK _ _ _ _ (h₁.2 _ hfa (F₁.sim.freshB hf)) ⟨⟨F.rm, F.eo, F.us, S', F.own, F.cold⟩, F₁.fr.kz (.of (Z := Sys) (HK.push _ _)), F₁.hd.imp id fun q => q.kz (.of (HK.push _ _))⟩ (.ref _) (k₁.trans (Kp.ofH (HK.push _ _))) (g₁.trans g k₁)
end

section
variable {G : PG} {d : Nat}
mutual
theorem sndA (hc : CallSnd G d) : ∀ (a : A) (c : Sc) (x : Expr), c.fns = G.tbl.map (·.1) ∧ c.xs = G.xs ∧ c.hots = G.hots → chkA c a x = true → SA G d c a x
  | .pure e, c, x, hf, h => sa_pure (sndE hc e c x hf h).1
  | .thaw e, c, x, hf, h => by
    replace h := (Bool.and_eq_true _ _).mp h
    exact sa_thaw (sndE hc e c x hf h.2).1 h.1
  | .list as, c, x, hf, h => by
    apply onList_elim h; clear h; intro xs p h
    exact sa_list (sndAs hc as c _ hf h)
  | .dict, c, x, hf, h => by
    obtain ⟨p, rfl⟩ := onDict0_inv h
    exact sa_dict
  | .new f es, c, x, hf, h => by
    apply onCallN_elim h; clear h; intro y p xs q h
    apply and2_elim h; clear h; intro h h3
    apply and2_elim h; clear h; intro h1 h2
    obtain ⟨z, r, rfl⟩ := some1_inv h1
    exact sa_new h2 (sndEs hc es c _ hf h3)
  | .callO f es, c, x, hf, h => ff h
theorem sndAs (hc : CallSnd G d) : ∀ (as : As) (c : Sc) (xs : List Expr), c.fns = G.tbl.map (·.1) ∧ c.xs = G.xs ∧ c.hots = G.hots → chkAs c as xs = true → SAs G d c as xs
  | .nil, c, xs, hf, h => by
    cases xs with
    | nil => exact sas_nil
    | cons => exact ff h
  | .cons a as, c, xs, hf, h => by
    cases xs with
    | nil => exact ff h
    | cons x r =>
      apply and2_elim h; clear h; intro h h3
      apply and2_elim h; clear h; intro h1 h2
      exact sas_cons h1 (sndA hc a c _ hf h2) (sndAs hc as c _ hf h3)
end
end

end Mine
end

section
set_option autoImplicit false
namespace Mine
open PySem

/-- what a statement leaves as it was -/
structure Ps (q : Bool) (lay : Nat → Option Place) (Z : Addr → Prop) (st : St) (s : Shared) (st' : St) (s' : Shared) : Prop where
  sh : ∃ h' tk, s' = { s with heap := h', toks := tk }
  old : ∀ b o, st.H b = none → (∀ i p, lay i = some p → b ≠ p.addr) → s.heap.get? b = some o → (¬ Z b → s'.heap.get? b = some o) ∧ ∃ sl, s'.heap.get? b = some { o with slots := sl }
  new : ∀ b, st'.H b ≠ none → st.H b = none → s.heap.get? b = none
  stay : ∀ b, st.H b ≠ none → st'.H b ≠ none
  B : st'.B = st.B
  len : st'.ρ.length = st.ρ.length
  ext : ∀ b, s.heap.get? b ≠ none → s'.heap.get? b ≠ none
  qt : q = true → ∀ b o, (∀ i p, lay i = some p → b ≠ p.addr) → s.heap.get? b = some o → ¬ Z b → s'.heap.get? b = some o
section
variable {Z : Addr → Prop}
theorem Ps.weak {q q' : Bool} {lay : Nat → Option Place} {st st' : St} {s s' : Shared} (x : Ps q lay Z st s st' s') (h : q' = true → q = true) : Ps q' lay Z st s st' s' := ⟨x.sh, x.old, x.new, x.stay, x.B, x.len, x.ext, fun e => x.qt (h e)⟩
theorem Ps.refl {q : Bool} {lay : Nat → Option Place} {st : St} {s : Shared} : Ps q lay Z st s st s := ⟨⟨s.heap, s.toks, rfl⟩, fun _ o _ _ e => ⟨fun _ => e, o.slots, e⟩, fun _ h e => absurd e h, fun _ h => h, rfl, rfl, fun _ h => h, fun _ _ _ _ e _ => e⟩
theorem Ps.trans {q : Bool} {lay : Nat → Option Place} {st st₁ st₂ : St} {s s₁ s₂ : Shared} (x : Ps q lay Z st s st₁ s₁) (y : Ps q lay Z st₁ s₁ st₂ s₂) : Ps q lay Z st s st₂ s₂ where
  sh := by
    obtain ⟨h1, t1, rfl⟩ := x.sh
    obtain ⟨h2, t2, rfl⟩ := y.sh
    exact ⟨h2, t2, rfl⟩
  old := fun b o h hp e => by
    have h1 : st₁.H b = none := by
      cases q : st₁.H b with
      | none => rfl
      | some ob => rw [x.new b (by rw [q]; simp) h] at e; cases e
    refine ⟨fun n => (y.old b o h1 hp ((x.old b o h hp e).1 n)).1 n, ?_⟩
    obtain ⟨_, e1⟩ := (x.old b o h hp e).2
    obtain ⟨sl, e2⟩ := (y.old b _ h1 hp e1).2
    exact ⟨sl, e2⟩
  new := fun b h e => by
    cases q : st₁.H b with
    | some o => exact x.new b (by rw [q]; simp) e
    | none =>
      cases q' : s.heap.get? b with
      | none => rfl
      | some o => exact absurd (y.new b h q) (x.ext b (by rw [q']; simp))
  stay := fun b h => y.stay b (x.stay b h)
  B := y.B.trans x.B
  len := y.len.trans x.len
  ext := fun b h => y.ext b (x.ext b h)
  qt := fun e b o hp h n => y.qt e b o hp (x.qt e b o hp h n) n
theorem Ps.ofK {q : Bool} {lay : Nat → Option Place} {st : St} {H' : AH} {s s' : Shared} (k : Kp Z s s') (g : Gr st.H H' s) : Ps q lay Z st s { st with H := H' } s' where
  sh := let ⟨h', tk, e, _⟩ := k; ⟨h', tk, e⟩
  old := fun b o _ _ e => k.hw b o e
  new := g.new
  stay := fun b h => by show H' b ≠ none; rw [g.stay b h]; exact h
  B := rfl
  len := rfl
  ext := fun b h e => h (k.hw.ext e)
  qt := fun _ b o _ e n => (k.hw b o e).1 n
theorem Ps.ofKp {q : Bool} {lay : Nat → Option Place} {st : St} {s s' : Shared} (k : Kp Z s s') : Ps q lay Z st s st s' := Ps.ofK k (Gr.refl _ _)
theorem Ps.ofTc {q : Bool} {hsh : HFn} {T : Heap → Prop} {lay : Nat → Option Place} {Sys Z' : Addr → Prop} {base : Heap} {st : St} {ρ' : List (Option V)} {is : List Nat} {s : Shared} {h' : Heap} {tk : Nat} (S : Sim hsh T lay Sys Z' base { st with ρ := ρ' } h') (t : Tc is lay s.heap h') (hl : ρ'.length = st.ρ.length) :
    Ps q lay Z st s { st with ρ := ρ' } { s with heap := h', toks := tk } where
  sh := ⟨h', tk, rfl⟩
  old := fun b o _ hp e => have e' := t b o (fun i _ p hi => hp i p hi) e; ⟨fun _ => e', o.slots, e'⟩
  new := fun b h e => absurd e h
  stay := fun _ h => h
  B := rfl
  len := hl
  ext := fun b h e => by
    cases q : s.heap.get? b with
    | none => exact h q
    | some o =>
      by_cases hp : ∃ i p, lay i = some p ∧ b = p.addr
      · obtain ⟨i, p, hi, rfl⟩ := hp
        exact S.live _ (S.sys i p hi).1 e
      · have := t b o (fun i _ p hi hb => hp ⟨i, p, hi, hb⟩) q
        rw [show ({ s with heap := h', toks := tk } : Shared).heap = h' from rfl, this] at e; cases e
  qt := fun _ b o hp e _ => t b o (fun i _ p hi => hp i p hi) e
end
/-- the frames stand behind a statement -/
theorem FrOk.ps {q : Bool} {A : Around} {hsh : HFn} {T : Heap → Prop} {lay : Nat → Option Place} {Sys Z Z' : Addr → Prop} {base : Heap} {st st' : St} {s s' : Shared} (f : FrOk A Sys s.heap) (S : Sim hsh T lay Sys Z base st s.heap) (S' : Sim hsh T lay Sys Z base st' s'.heap) (p : Ps q lay Z' st s st' s') : FrOk A Sys s'.heap := by
  obtain ⟨_, l, e, f⟩ := f
  refine ⟨S'.live, l, e, fun v hv => ?_⟩
  obtain ⟨g1, L, o, g2, g3, g4, g5⟩ := f v hv
  by_cases hp : ∃ i pl, lay i = some pl ∧ L = pl.addr
  · obtain ⟨i, pl, hi, rfl⟩ := hp
    have hk := S'.ok i pl hi
    cases pl with
    | loc L x => obtain ⟨m, o', es, ep, e', d, _⟩ := hk; exact ⟨g1, L, o', g2, g3, e', fun vs q => by rw [d] at q; cases q⟩
    | cell c => obtain ⟨v', o', e', d⟩ := hk; exact ⟨g1, c, o', g2, g3, e', fun vs q => by rw [d] at q; cases q⟩
  · obtain ⟨sl, e'⟩ := (p.old L o (S.dis L g3) (fun i pl hi hb => hp ⟨i, pl, hi, hb⟩) g4).2
    exact ⟨g1, L, _, g2, g3, e', g5⟩

theorem HdOk.ps {q : Bool} {A : Around} {hsh : HFn} {T : Heap → Prop} {lay : Nat → Option Place} {Sys Z : Addr → Prop} {base : Heap} {st st' : St} {s s' : Shared} (f : HdOk A Sys s.heap) (S : Sim hsh T lay Sys Z base st s.heap) (p : Ps q lay (FZ A Sys) st s st' s') : HdOk A Sys s'.heap :=
  f.imp id fun ⟨y, o, vs, h1, h2, h3, h4⟩ => ⟨y, o, vs, h1, h2, (p.old y o (by
    cases q : st.H y with
    | none => rfl
    | some ob => exact ((S.objs y ob q).nofields h3 h4.1).elim) (fun i pl hp e => h2 (e ▸ (S.sys i pl hp).1)) h3).1 fun q => h2 q.2, h4⟩
theorem RV.ps {q : Bool} {hsh : HFn} {T : Heap → Prop} {lay : Nat → Option Place} {Sys Z : Addr → Prop} {base : Heap} {st st' : St} {s s' : Shared} {v : V} {x : Value} (r : RV (NN st.H Sys) s.heap v x) (S : Sim hsh T lay Sys Z base st s.heap) (p : Ps q lay Z st s st' s') : RV (NN st'.H Sys) s'.heap v x :=
  r.gen (fun b q => by
    rcases q with q | q
    · cases e : st.H b with
      | none => exact .inr (p.new b q e)
      | some o => exact .inl (.inl (by rw [e]; simp))
    · exact .inl (.inr q)) fun b o nb e => (p.old b o (by
      cases q : st.H b with
      | none => rfl
      | some o => exact absurd (.inl (by rw [q]; simp)) nb) (fun i pl hp hb => nb (.inr (hb ▸ (S.sys i pl hp).1))) e).1 fun q => nb (.inr (S.zs b q))

inductive FlR (N : Addr → Prop) (h : Heap) : Fl → Flow → Prop
  | next : FlR N h .next .next
  | brk : FlR N h .brk .brk
  | cont : FlR N h .cont .cont
  | ret {v val} : RV N h v val → FlR N h (.ret v) (.ret val)

/-- how a raise leaves a suite -/
inductive RzS (mg : Str → Option Value) (A : Around) (Sys : Addr → Prop) (base : Heap) (s : Shared) (X : String → St → Prop) (e : Value) (s' : Shared) : Prop
  | mk (c C x ctx st') : X c st' → mg (Str.ofString c) = some (.ref C) → e = .ref x → (∃ h' tk, s' = { s with heap := h', toks := tk }) → FrOk A Sys s'.heap → HW (FZ A Sys) base s'.heap → (A.handled = none → ctx = .none) → (Fly0 Sys base x C ctx s'.heap ∨ Fly Sys base x C ctx (fun v => v = .none ∨ ∃ L, TopL A L ∧ v = rawInt L) s'.heap) → RzS mg A Sys base s X e s'
theorem RzS.trans {mg : Str → Option Value} {A : Around} {Sys : Addr → Prop} {base : Heap} {s s₁ s' : Shared} {X : String → St → Prop} {e : Value} (r : RzS mg A Sys base s₁ X e s') (k : ∃ h' tk, s₁ = { s with heap := h', toks := tk }) : RzS mg A Sys base s X e s' := by
  obtain ⟨c, C, x, ctx, st', h1, h2, h3, ⟨h', tk, rfl⟩, h5, h6, h7, h8⟩ := r
  obtain ⟨h0, t0, rfl⟩ := k
  exact ⟨c, C, x, ctx, st', h1, h2, h3, ⟨h', tk, rfl⟩, h5, h6, h7, h8⟩
theorem Rz.toS {G : PG} {d : Nat} {c : Sc} {A : Around} {env : Env} {lay : Nat → Option Place} {Sys : Addr → Prop} {base : Heap} {st st' : St} {s s' : Shared} {X : String → St → Prop} {e : Value} (r : Rz G.mg A Sys s (fun x => X x st') e s') (F : Fx G d c A env lay Sys base st s) : RzS G.mg A Sys base s X e s' :=
  let ⟨c, C, x, ctx, h1, h2, h3, h4, h5, h6⟩ := r; ⟨c, C, x, ctx, st', h1, h2, h3, let ⟨h', tk, e, _⟩ := h4; ⟨h', tk, e⟩, F.fr.kz h4.hw, F.sim.keep.trans h4.hw, h5, h6.imp (fun f => f.before fun _ n => n.before F.sim.keep) fun f => f.before fun _ n => n.before F.sim.keep⟩
/-- out of a loop's suite -/
theorem RzS.pass {G : PG} {d : Nat} {c : Sc} {A : Around} {env : Env} {lay : Nat → Option Place} {Sys : Addr → Prop} {base : Heap} {st : St} {s s₀ s' : Shared} {X : String → St → Prop} {e : Value} {E : Value → Shared → Prop} (r : RzS G.mg A Sys base s X e s') (F : Fx G d c A env lay Sys base st s₀) (hX : ∀ e s', RzS G.mg A Sys base s X e s' → E e s') :
    notedBy (model G.prog G.w) A env (fun e s' => cameBackBy (model G.prog G.w) A env E e s') e s' := by
  obtain ⟨c, C, x, ctx, st', h1, h2, rfl, ⟨h', tk, rfl⟩, h5, h6, h7, h8⟩ := r
  obtain ⟨L, hL, hA⟩ := F.own
  have fin : ∀ h'', HW (FZ A Sys) base h'' → FrOk A Sys h'' → Fly Sys base x C ctx (· = rawInt L) h'' → wpAny (model G.prog G.w) A (do
    if (← field (.ref x) 1) == .none then unsupported "frame.own-activation:exception-without-traceback"
    setFlight (.ref x) env.frame) (fun _ s'' => E (.ref x) s'') E { s with heap := h'', toks := tk } := fun h'' k1 k2 k3 =>
      back_fly (s := { s with heap := h'', toks := tk }) k2 hL k1 k3 fun h₃ q1 q2 q3 => hX _ _ ⟨c, C, x, ctx, st', h1, h2, rfl, ⟨h₃, tk, rfl⟩, q2, q1, h7, .inr (q3.mono fun v e => .inr ⟨L, hA, e⟩)⟩
  rcases h8 with f | f
  · exact note_fly0 (s := { s with heap := h', toks := tk }) h5 hA hL h6 f fun h'' k1 k2 k3 => fin h'' k1 k2 k3
  · exact note_fly (s := { s with heap := h', toks := tk }) h5 hA hL h6 (f.mono fun v q => q.imp id fun ⟨M, ⟨e1, l1, a1, a2⟩, a3⟩ => by
      obtain ⟨e2, l2, b1, b2⟩ := hA
      rw [b1] at a1; cases a1
      rw [b2] at a2; cases a2; exact a3) fun h'' k1 k2 k3 => fin h'' k1 k2 k3

section
variable {G : PG} {d : Nat} {c : Sc} {A : Around} {env : Env} {lay : Nat → Option Place} {Sys : Addr → Prop} {base : Heap} {st : St} {s : Shared}

noncomputable abbrev SS (G : PG) (d : Nat) (c : Sc) (m : S) (x : Stmt) : Prop :=
  ∀ {A : Around} {env : Env} {lay : Nat → Option Place} {Sys : Addr → Prop} {base : Heap} {st : St} {s : Shared}, Fx G d c A env lay Sys base st s →
    ∀ (Q : Fl → St → Prop) (X : String → St → Prop) (K : Flow → Shared → Prop) (E : Value → Shared → Prop), WS (G.cx d) m st Q X →
      (∀ f fl st' s', Q f st' → FlR (NN st'.H Sys) s'.heap f fl → Fx0 G d c A env lay Sys base st' s' → Ps (quietS m) lay (FZ A Sys) st s st' s' → K fl s') → (∀ e s', RzS G.mg A Sys base s X e s' → E e s') →
      wpAny (model G.prog G.w) A (exec x env) K E s
noncomputable abbrev SB (G : PG) (d : Nat) (c : Sc) (b : Bl) (xs : List Stmt) : Prop :=
  ∀ {A : Around} {env : Env} {lay : Nat → Option Place} {Sys : Addr → Prop} {base : Heap} {st : St} {s : Shared}, Fx G d c A env lay Sys base st s →
    ∀ (Q : Fl → St → Prop) (X : String → St → Prop) (K : Flow → Shared → Prop) (E : Value → Shared → Prop), WB (G.cx d) b st Q X →
      (∀ f fl st' s', Q f st' → FlR (NN st'.H Sys) s'.heap f fl → Fx0 G d c A env lay Sys base st' s' → Ps (quietB b) lay (FZ A Sys) st s st' s' → K fl s') → (∀ e s', RzS G.mg A Sys base s X e s' → E e s') →
      wpAny (model G.prog G.w) A (execs xs env) K E s

theorem Fx.ps {q : Bool} {st' : St} {s' : Shared} (F : Fx G d c A env lay Sys base st s) (F' : Fx0 G d c A env lay Sys base st' s') (p : Ps q lay (FZ A Sys) st s st' s') : Fx G d c A env lay Sys base st' s' := ⟨F', F.fr.ps F.sim F'.sim p, F.hd.imp id fun q => q.ps F.sim p⟩
theorem sb_nil : SB G d c .nil [] := by
  intro A env lay Sys base st s F Q X K E hW hK hX
  simp only [wb_0, wb_1] at hW
  exact wpAny_execs_nil (hK _ _ st s hW .next F.toFx0 Ps.refl)
theorem and_l {a b : Bool} (h : (a && b) = true) : a = true := ((Bool.and_eq_true _ _).mp h).1
theorem and_r {a b : Bool} (h : (a && b) = true) : b = true := ((Bool.and_eq_true _ _).mp h).2
theorem sb_cons {m : S} {b : Bl} {x : Stmt} {xs : List Stmt} (hm : SS G d c m x) (hb : SB G d c b xs) : SB G d c (.cons m b) (x :: xs) := by
  intro A env lay Sys base st s F Q X K E hW hK hX
  simp only [wb_0, wb_1] at hW
  refine wpAny_execs_cons (hm F _ X _ E hW (fun f fl st' s' q r F' p => ?_) hX)
  cases r with
  | next => exact hb (F.ps F' p) Q X K E q (fun f fl st'' s'' q r F'' p' => hK f fl st'' s'' q r F'' ((p.weak and_l).trans (p'.weak and_r))) fun e s' q => hX e s' (q.trans p.sh)
  | brk => exact hK _ _ st' s' q .brk F' (p.weak and_l)
  | cont => exact hK _ _ st' s' q .cont F' (p.weak and_l)
  | ret r => exact hK _ _ st' s' q (.ret r) F' (p.weak and_l)

theorem swaps_none {x : Expr} {t : Option Expr} {l : Nat} (h : isComp x = false) : swapsWith x t l env = pure false := by
  cases x <;> first | rfl | exact nomatch h

theorem ss_expr {e : E} {y : Expr} {pos : Pos} (he : SE G d c e y) (hc : isComp y = false) : SS G d c (.expr e) (.Expr y pos) := by
  intro A env lay Sys base st s F Q X K E hW hK hX
  simp only [ws_0, ws_1, ws_2, ws_3, ws_4, ws_5, ws_6, ws_7, ws_8, ws_9, ws_10, ws_11, ws_12, ws_13, ws_14, ws_15, ws_16, pk_ret, pk_next] at hW
  refine wpAny_Expr_any ((he F).weak _ _ _ E hW (fun v val s' q r k _ => hK .next .next st s' q .next (F.keeps k).toFx0 (Ps.ofKp k)) fun e s' q => hX e s' (q.toS F)) (by simp [interactive, F.eo.kind]) (swaps_none hc)

theorem ss_ret {e : E} {y : Expr} {pos : Pos} (he : SE G d c e y) : SS G d c (.ret e) (.Return (some y) pos) := by
  intro A env lay Sys base st s F Q X K E hW hK hX
  simp only [ws_0, ws_1, ws_2, ws_3, ws_4, ws_5, ws_6, ws_7, ws_8, ws_9, ws_10, ws_11, ws_12, ws_13, ws_14, ws_15, ws_16, pk_ret, pk_next] at hW
  exact wpAny_Return_some ((he F).weak _ _ _ E hW (fun v val s' q r k _ => hK (.ret v) (.ret val) st s' q (.ret r) (F.keeps k).toFx0 (Ps.ofKp k)) fun e s' q => hX e s' (q.toS F))

theorem ss_ite {t : E} {a b : Bl} {y : Expr} {bs os : List Stmt} {pos : Pos} (ht : ST G d c t y) (ha : SB G d c a bs) (hb : SB G d c b os) : SS G d c (.ite t a b) (.If y bs os pos) := by
  intro A env lay Sys base st s F Q X K E hW hK hX
  simp only [ws_0, ws_1, ws_2, ws_3, ws_4, ws_5, ws_6, ws_7, ws_8, ws_9, ws_10, ws_11, ws_12, ws_13, ws_14, ws_15, ws_16, pk_ret, pk_next] at hW
  refine wpAny_If (ht F (fun r => if r then WB (G.cx d) a st Q X else WB (G.cx d) b st Q X) _ _ E (WE_cg hW fun u => ?_) (fun r s₁ q k => ?_) fun e s' q => hX e s' (q.toS F))
  · cases truthV st.H u with
    | none => rfl
    | some r => cases r <;> rfl
  · cases r
    · simp only [Bool.false_eq_true, if_false] at q ⊢
      exact hb (F.keeps k) Q X K E q (fun f fl st' s' q' r' F' p => hK f fl st' s' q' r' F' ((Ps.ofKp k).trans (p.weak and_r))) fun e s' q => hX e s' (q.trans (let ⟨h', tk, e, _⟩ := k; ⟨h', tk, e⟩))
    · simp only [if_true] at q ⊢
      exact ha (F.keeps k) Q X K E q (fun f fl st' s' q' r' F' p => hK f fl st' s' q' r' F' ((Ps.ofKp k).trans (p.weak and_l))) fun e s' q => hX e s' (q.trans (let ⟨h', tk, e, _⟩ := k; ⟨h', tk, e⟩))

theorem ss_while {t : E} {b : Bl} {y : Expr} {bs : List Stmt} {pos : Pos} (ht : ST G d c t y) (hb : SB G d c b bs) : SS G d c (.while t b) (.While y bs [] pos) := by
  intro A env lay Sys base st s F Q X K E hW hK hX
  simp only [ws_0, ws_1, ws_2, ws_3, ws_4, ws_5, ws_6, ws_7, ws_8, ws_9, ws_10, ws_11, ws_12, ws_13, ws_14, ws_15, ws_16, pk_ret, pk_next] at hW
  obtain ⟨n, hn⟩ := hW
  refine wpAny_While (codeAny_whileLoop (fun n s' => ∃ st', whileN (fun st' K => WE (G.cx d) t st' (fun u => match truthV st'.H u with
      | some r => K r
      | none => False) (fun x => X x st')) (fun st' K => WB (G.cx d) b st' K X) Q n st' ∧ Fx G d c A env lay Sys base st' s' ∧ Ps false lay (FZ A Sys) st s st' s') ?_ n ⟨st, hn, F, Ps.refl⟩)
  rintro n s' ⟨st', hw, F', p⟩
  cases n with
  | zero => exact hw.elim
  | succ n =>
    simp only [wn_zero, wn_succ] at hw
    refine ht F' _ _ _ _ hw (fun r s₁ q k => ?_) fun e s'' q => RzS.pass ((q.toS F').trans p.sh) F hX
    cases r
    · simp only [Bool.false_eq_true, if_false] at q ⊢
      exact wpAny_execs_nil (hK .next .next st' s₁ q .next (F'.keeps k).toFx0 (p.trans (Ps.ofKp k)))
    · simp only [if_true] at q ⊢
      refine hb (F'.keeps k) _ X _ _ q (fun f fl st'' s'' q' r' F'' p' => ?_) fun e s'' q => RzS.pass (q.trans (p.trans (Ps.ofKp k)).sh) F hX
      have pp := (p.trans (Ps.ofKp k)).trans (p'.weak nofun)
      cases r' with
      | next => exact ⟨n, Nat.lt_succ_self n, st'', q', (F'.keeps k).ps F'' p', pp⟩
      | cont => exact ⟨n, Nat.lt_succ_self n, st'', q', (F'.keeps k).ps F'' p', pp⟩
      | brk => exact hK .next .next st'' s'' q' .next F'' pp
      | ret r => exact hK (.ret _) (.ret _) st'' s'' q' (.ret r) F'' pp

/-- plain stores -/
theorem asg_plain {tg y : Expr} {pos : Pos} {K : Flow → Shared → Prop} {E : Value → Shared → Prop} (hs : swapsWithSole [tg] y pos.line env = pure false) (hw : swappedStores [tg] y env = pure none) (hst : noStar tg = true)
    (h : wpAny (model G.prog G.w) A (eval y env) (fun v s₁ => wpAny (model G.prog G.w) A (assign tg env v) (fun _ s₂ => K .next s₂) E s₁) E s) : wpAny (model G.prog G.w) A (exec (.Assign [tg] y pos) env) K E s := by
  refine wpAny_Assign_stores (wpAny_mono h (fun v s₁ h₁ => ?_) fun _ _ x => x) hs hw
  have e : (assignEach [tg] env).map (·.2) = [assign tg env] := by cases tg <;> first | rfl | exact ff hst
  rw [e]
  exact h₁
end

end Mine
end

section
set_option autoImplicit false
namespace Mine
open PySem

/-- more things off limits, and more tracked -/
theorem Sim.gen {hsh : HFn} {T : Heap → Prop} {lay : Nat → Option Place} {Sys Z New : Addr → Prop} {base : Heap} {st : St} {H' : AH} {h h' : Heap} (S : Sim hsh T lay Sys Z base st h) (k : HW Z h h') (hn : ∀ b, New b → h.get? b = none) (hn' : ∀ b, New b → h'.get? b ≠ none) (hnh : ∀ b, New b → H' b = none)
    (hstay : ∀ b, st.H b ≠ none → H' b = st.H b) (hnew : ∀ b, H' b ≠ none → st.H b = none → h.get? b = none) (hro : ∀ b o, H' b = some o → st.H b = none → RO hsh (NN H' (fun a => Sys a ∨ New a)) h' b o) :
    Sim hsh T lay (fun a => Sys a ∨ New a) Z base { st with H := H' } h' := by
  have hN : ∀ b, NN H' (fun a => Sys a ∨ New a) b → NN st.H Sys b ∨ h.get? b = none := fun b q => by
    rcases q with q | q | q
    · cases e : st.H b with
      | none => exact .inr (hnew b q e)
      | some o => exact .inl (.inl (by rw [e]; simp))
    · exact .inl (.inr q)
    · exact .inr (hn b q)
  have hd : ∀ a, Sys a → H' a = none := fun a q => by
    cases e : H' a with
    | none => rfl
    | some o => exact absurd (hnew a (by rw [e]; simp) (S.dis a q)) (S.live a q)
  refine ⟨S.keep.trans k, fun b q => .inl (S.zs b q), (S.enter k hn hn').top, fun i v p a b => ?_, fun i p a => (S.ok i p a).kz k, S.inj, fun i p a => ?_, fun a o e => ?_, fun a h1 h2 => ?_, fun a q e => ?_, S.ent, fun a q => q.elim (hd a) (hnh a)⟩
  · obtain ⟨val, x, y⟩ := S.vals i v p a b
    exact ⟨val, x.kz k, y.gen hN fun b o nb e => (k b o e).1 fun q => nb (.inr (S.zs b q))⟩
  · have hs := S.sys i p a
    exact ⟨.inl hs.1, hs.2.1, hd _ hs.1⟩
  · cases e' : st.H a with
    | none => exact hro a o e e'
    | some o' =>
      have : H' a = some o := e
      rw [hstay a (by rw [e']; simp)] at this
      exact (S.objs a o this).gen hN (fun b o nb e => (k b o e).1 fun q => nb (.inr (S.zs b q))) fun o e => (k a o e).1 fun q => by rw [S.dis a (S.zs a q)] at e'; cases e'
  · cases e : st.H a with
    | some o => exact S.own a (by rw [e]; simp) h2
    | none =>
      exact S.keep.ext (hnew a h1 e)
  · rcases q with q | q
    · exact S.live a q (k.ext e)
    · exact hn' a q e

/-- leaving what was off limits for a while -/
theorem Sim.leave {hsh : HFn} {T : Heap → Prop} {lay : Nat → Option Place} {Sys Z New : Addr → Prop} {base : Heap} {st : St} {h h' : Heap} (S : Sim hsh T lay (fun a => Sys a ∨ New a) Z base st h) (hz : ∀ b, Z b → Sys b) (hk : ∀ b o, ¬ New b → h.get? b = some o → h'.get? b = some o)
    (hlay : ∀ i p, lay i = some p → Sys p.addr) (hSN : ∀ a, Sys a → ¬ New a) (hH : ∀ b, st.H b ≠ none → ¬ New b) (hbase : ∀ b, New b → base.get? b = none) : Sim hsh T lay Sys Z base st h' := by
  have hN : ∀ b, NN st.H Sys b → NN st.H (fun a => Sys a ∨ New a) b ∨ h.get? b = none := fun b q => .inl (q.elim .inl fun q => .inr (.inl q))
  have hk' : ∀ b o, ¬ NN st.H (fun a => Sys a ∨ New a) b → h.get? b = some o → h'.get? b = some o := fun b o nb e => hk b o (fun q => nb (.inr (.inr q))) e
  have hpl : ∀ i p, lay i = some p → ∀ o, h.get? p.addr = some o → h'.get? p.addr = some o := fun i p hp o e => hk _ o (hSN _ (hlay i p hp)) e
  refine ⟨fun b o e => have nb : ¬ New b := fun q => by rw [hbase b q] at e; cases e
    ⟨fun n => hk b o nb ((S.keep b o e).1 n), let ⟨sl, e'⟩ := (S.keep b o e).2; ⟨sl, hk b _ nb e'⟩⟩, hz, let ⟨b0, t, k0, n⟩ := S.top; ⟨b0, t, k0, fun a q => n a (q.imp .inl id)⟩, fun i v p a b => ?_, fun i p a => ?_, S.inj, fun i p a => ⟨hlay i p a, (S.sys i p a).2⟩, fun a o e => ?_, S.own, fun a q e => ?_, S.ent, fun a q => S.dis a (.inl q)⟩
  · obtain ⟨val, x, y⟩ := S.vals i v p a b
    refine ⟨val, ?_, y.gen hN hk'⟩
    have hp := hpl i p b
    cases p with
    | loc L z =>
      obtain ⟨m, ⟨o, es, ep, ho, r⟩, e⟩ := x
      exact ⟨m, ⟨o, es, ep, hp o ho, r⟩, e⟩
    | cell cc =>
      obtain ⟨o, ho, r⟩ := x
      exact ⟨o, hp o ho, r⟩
  · have hp := hpl i p a
    have x := S.ok i p a
    cases p with
    | loc L z =>
      obtain ⟨m, o, es, ep, ho, r⟩ := x
      exact ⟨m, o, es, ep, hp o ho, r⟩
    | cell cc =>
      obtain ⟨v, o, ho, r⟩ := x
      exact ⟨v, o, hp o ho, r⟩
  · refine (S.objs a o e).gen hN hk' fun o' e' => hk a o' (hH a (by rw [e]; simp)) e'
  · cases q' : h.get? a with
    | none => exact S.live a (.inl q) q'
    | some o => rw [hk a o (hSN a q) q'] at e; cases e

/-- a tracked thing of the frame's own is turned -/
theorem Sim.write {hsh : HFn} {T : Heap → Prop} {lay : Nat → Option Place} {Sys Z : Addr → Prop} {base : Heap} {st : St} {h h' : Heap} {ad : Addr} {o o' : AO} (S : Sim hsh T lay Sys Z base st h) (ho : st.H ad = some o) (hB : st.B ad = none)
    (hk : ∀ b ob, b ≠ ad → h.get? b = some ob → h'.get? b = some ob) (ro : RO hsh (NN (st.H.upd ad o') Sys) h' ad o') : Sim hsh T lay Sys Z base { st with H := st.H.upd ad o' } h' := by
  have hb : base.get? ad = none := S.own ad (by rw [ho]; simp) hB
  have hN : ∀ b, NN (st.H.upd ad o') Sys b → NN st.H Sys b ∨ h.get? b = none := fun b q => by
    rcases q with q | q
    · by_cases e : b = ad
      · subst e; exact .inl (.inl (by rw [ho]; simp))
      · rw [upd_other _ _ e] at q; exact .inl (.inl q)
    · exact .inl (.inr q)
  have hk' : ∀ b ob, ¬ NN st.H Sys b → h.get? b = some ob → h'.get? b = some ob := fun b ob nb e => hk b ob (fun q => nb (.inl (by rw [q, ho]; simp))) e
  have hpl : ∀ i p, lay i = some p → p.addr ≠ ad := fun i p hp e => by have := (S.sys i p hp).2.2; rw [e, ho] at this; cases this
  have hda : ¬ Sys ad := fun q => by rw [S.dis ad q] at ho; cases ho
  refine ⟨S.keep.ext1 hb hk, S.zs, S.top, fun i v p a b => ?_, fun i p a => ?_, S.inj, fun i p a => ?_, fun a ob e => ?_, fun a h1 h2 => ?_, fun a q e => ?_, S.ent, fun a q => (upd_other _ _ fun e : a = ad => hda (e ▸ q)).trans (S.dis a q)⟩
  · obtain ⟨val, x, y⟩ := S.vals i v p a b
    refine ⟨val, ?_, y.gen hN hk'⟩
    have hp := hpl i p b
    cases p with
    | loc L z =>
      obtain ⟨m, ⟨o, es, ep, ho, r⟩, e⟩ := x
      exact ⟨m, ⟨o, es, ep, hk _ o hp ho, r⟩, e⟩
    | cell cc =>
      obtain ⟨o, ho, r⟩ := x
      exact ⟨o, hk _ o hp ho, r⟩
  · have hp := hpl i p a
    have x := S.ok i p a
    cases p with
    | loc L z =>
      obtain ⟨m, o, es, ep, ho, r⟩ := x
      exact ⟨m, o, es, ep, hk _ o hp ho, r⟩
    | cell cc =>
      obtain ⟨v, o, ho, r⟩ := x
      exact ⟨v, o, hk _ o hp ho, r⟩
  · have hs := S.sys i p a
    refine ⟨hs.1, hs.2.1, ?_⟩
    show st.H.upd ad o' p.addr = none
    rw [upd_other _ _ (hpl i p a)]; exact hs.2.2
  · by_cases q : a = ad
    · subst q
      have e : st.H.upd a o' a = some ob := e
      rw [upd_self] at e; cases e; exact ro
    · have e : st.H.upd ad o' a = some ob := e
      rw [upd_other _ _ q] at e
      exact (S.objs a ob e).gen hN hk' fun o1 e1 => hk a o1 q e1
  · by_cases q : a = ad
    · subst q; exact hb
    · have h1 : st.H.upd ad o' a ≠ none := h1
      rw [upd_other _ _ q] at h1; exact S.own a h1 h2
  · by_cases q' : a = ad
    · subst q'
      obtain ⟨ob, e'⟩ := ro.exists
      rw [e'] at e; cases e
    · cases q2 : h.get? a with
      | none => exact S.live a q q2
      | some ob => rw [hk a ob q' q2] at e; cases e
theorem Ps.write {Z : Addr → Prop} {lay : Nat → Option Place} {st : St} {s : Shared} {h' : Heap} {tk : Nat} {ad : Addr} {o o' : AO} (ho : st.H ad = some o) (hk : ∀ b ob, b ≠ ad → s.heap.get? b = some ob → h'.get? b = some ob) (hx : h'.get? ad ≠ none) :
    Ps false lay Z st s { st with H := st.H.upd ad o' } { s with heap := h', toks := tk } where
  sh := ⟨h', tk, rfl⟩
  old := fun b ob hb _ e => have e' := hk b ob (fun q => by rw [q, ho] at hb; cases hb) e; ⟨fun _ => e', ob.slots, e'⟩
  new := fun b h e => by
    by_cases q : b = ad
    · rw [q, ho] at e; cases e
    · have h : st.H.upd ad o' b ≠ none := h
      rw [upd_other _ _ q] at h; exact absurd e h
  stay := fun b h => by
    show st.H.upd ad o' b ≠ none
    by_cases q : b = ad
    · rw [q, upd_self]; simp
    · rw [upd_other _ _ q]; exact h
  B := rfl
  len := rfl
  ext := fun b h e => by
    by_cases q : b = ad
    · subst q; exact hx e
    · cases q2 : s.heap.get? b with
      | none => exact h q2
      | some ob =>
        have := hk b ob q q2
        rw [show ({ s with heap := h', toks := tk } : Shared).heap = h' from rfl, this] at e; cases e
  qt := nofun
theorem RVs.upd {H : AH} {Sys : Addr → Prop} {h h' : Heap} {ad : Addr} {o o' : AO} {vs : List V} {xs : List Value} (r : RVs (NN H Sys) h vs xs) (ho : H ad = some o) (hk : ∀ b ob, b ≠ ad → h.get? b = some ob → h'.get? b = some ob) : RVs (NN (H.upd ad o') Sys) h' vs xs :=
  r.gen (fun b q => by
    rcases q with q | q
    · by_cases e : b = ad
      · subst e; exact .inl (.inl (by rw [ho]; simp))
      · rw [upd_other _ _ e] at q; exact .inl (.inl q)
    · exact .inl (.inr q)) fun b ob nb e => hk b ob (fun q => nb (.inl (by rw [q, ho]; simp))) e
theorem RV.upd {H : AH} {Sys : Addr → Prop} {h h' : Heap} {ad : Addr} {o o' : AO} {v : V} {x : Value} (r : RV (NN H Sys) h v x) (ho : H ad = some o) (hk : ∀ b ob, b ≠ ad → h.get? b = some ob → h'.get? b = some ob) : RV (NN (H.upd ad o') Sys) h' v x :=
  r.gen (fun b q => by
    rcases q with q | q
    · by_cases e : b = ad
      · subst e; exact .inl (.inl (by rw [ho]; simp))
      · rw [upd_other _ _ e] at q; exact .inl (.inl q)
    · exact .inl (.inr q)) fun b ob nb e => hk b ob (fun q => nb (.inl (by rw [q, ho]; simp))) e

end Mine
end

section
set_option autoImplicit false
namespace Mine
open PySem

section
variable {G : PG} {d : Nat} {c : Sc} {A : Around} {env : Env} {lay : Nat → Option Place} {Sys : Addr → Prop} {base : Heap} {st : St} {s : Shared}

theorem chkN_star {i : Nat} {tg : Expr} (h : chkN c i tg = true) : noStar tg = true := by obtain ⟨x, pos, rfl, _⟩ := chkN_eq h; rfl
theorem chkN_swap {i : Nat} {tg y : Expr} (h : chkN c i tg = true) : swappedStores [tg] y env = pure none := by obtain ⟨x, pos, rfl, _⟩ := chkN_eq h; rfl

theorem ss_own {i : Nat} {a : Mine.A} {tg y : Expr} {pos : Pos} {Q : Fl → St → Prop} {X : String → St → Prop} {K : Flow → Shared → Prop} {E : Value → Shared → Prop} (F : Fx G d c A env lay Sys base st s) (ha : SA G d c a y) (ht : chkN c i tg = true) (hs : swapsWithSole [tg] y pos.line env = pure false)
    (hW : WS (G.cx d) (.own i a) st Q X) (hK : ∀ f fl st' s', Q f st' → FlR (NN st'.H Sys) s'.heap f fl → Fx0 G d c A env lay Sys base st' s' → Ps true lay (FZ A Sys) st s st' s' → K fl s') (hX : ∀ e s', RzS G.mg A Sys base s X e s' → E e s') : wpAny (model G.prog G.w) A (exec (.Assign [tg] y pos) env) K E s := by
  simp only [ws_0, ws_1, ws_2, ws_3, ws_4, ws_5, ws_6, ws_7, ws_8, ws_9, ws_10, ws_11, ws_12, ws_13, ws_14, ws_15, ws_16, pk_ret, pk_next] at hW
  refine asg_plain hs (chkN_swap ht) (chkN_star ht) (ha F _ _ _ E hW (fun v H' val s₁ q F₁ r k g => ?_) fun e s' q => hX e s' (q.toS F))
  replace q := putV_inv (P := fun ρ' => Q .next { st with ρ := ρ', H := H' }) q
  refine st_one F₁.eo F₁.sim ht q.1 r fun h' tk S' tc => ?_
  exact hK .next .next _ _ q.2 .next ⟨F.rm, F.eo, F.us, S', F.own, F.cold⟩ ((Ps.ofK k g).trans (Ps.ofTc (st := { st with H := H' }) S' tc (by simp)))

/-- a comprehension's value, stored ahead of the names' letting go -/
theorem own_swap {f : V → (Option V → Prop) → Prop} {t : Tg} {tg tg' iter elt : Expr} {ifs : List Expr} {sc : Scope} {pos pos' : Pos} {xs : List Str} {it : It} {i : Nat} {QQ : List V → Prop} {X' : String → Prop} {Q : Fl → St → Prop} {K : Flow → Shared → Prop} {E : Value → Shared → Prop}
    (F : Fx G d c A env lay Sys base st s) (hi : SI G d c it iter) (hset : isSetX iter = false) (hez : isEZ it = true → isTupX tg' = true) (ht : TableOk c xs sc) (hti : tgIs c.used t xs = true) (htg : chkTg (inner c xs sc.names) t tg' = true)
    (hstep : CStep G d c A st base xs sc t ifs elt f) (htn : chkN c i tg = true) (hsw : swapsWithSole [tg] (.ListComp elt [⟨tg', iter, ifs, 0⟩] sc pos') pos.line env = pure true) (hW : WI (G.cx d) it st (fun xs _ => xs.length ≤ sizeLine ∧ compL f xs QQ) X')
    (hmk : ∀ ys D, QQ ys → freshAt st D → ∃ v H', i < st.ρ.length ∧ Q .next { st with ρ := st.ρ.set i (some v), H := H' } ∧ ((v = .lst ys ∧ H' = st.H) ∨ (v = .ref D ∧ H' = st.H.upd D (.list ys))))
    (hK : ∀ f fl st' s', Q f st' → FlR (NN st'.H Sys) s'.heap f fl → Fx0 G d c A env lay Sys base st' s' → Ps true lay (FZ A Sys) st s st' s' → K fl s') (hX : ∀ e s', Rz G.mg A Sys s X' e s' → E e s') :
    wpAny (model G.prog G.w) A (exec (.Assign [tg] (.ListComp elt [⟨tg', iter, ifs, 0⟩] sc pos') pos) env) K E s := by
  have etg : (assignEach [tg] env).map (·.2) = [assign tg env] := by obtain ⟨x, p, rfl, _⟩ := chkN_eq htn; rfl
  rw [exec_Assign_arm]
  refine wpAny_bind (wpAny_standAt ?_)
  rw [hsw]
  refine wpAny_bind (wpAny_pure ?_)
  rw [if_pos rfl, etg]
  obtain ⟨cl, e1, e2⟩ := closure_ok (free_cells F.eo ht)
  refine wpAny_bind ?_
  show wpAny _ A (do let _ ← comprehension (.ListComp elt [⟨tg', iter, ifs, 0⟩] sc pos') sc env _ (newList []) false (eval iter env) (some fun v => assignAll v [assign tg env])) _ _ s
  refine wpAny_bind (wpAny_mono (wpAny_comprehension_free (use := some fun v => assignAll v [assign tg env]) (Q := fun _ s' => K .next s') rfl (folded_plain hset env) e1 ht.kind (fun x hx hl => by rw [← hl]; exact nodup_lookup ht.nodup hx) ?_) (fun _ s' hq => wpAny_pure (wpAny_pure hq)) fun _ _ e => e)
  refine hi F _ X' _ E hW (fun vs ds I s₂ hq k io => ?_) hX
  refine comp_block (RR := fun acc C => compPost (model G.prog G.w) A E (some fun v => assignAll v [assign tg env]) (fun _ s' => K .next s') acc C) F k io hez hq.1 ht hti htg e2 hstep hq.2 ?_
  intro D C h' tk m' ys zs nn hQ hD hC hDC hm hl hz hr hk
  obtain ⟨h2, t2, rfl, k2⟩ := k
  show wpAny _ A (assign tg env (.ref D)) _ _ _
  have hbC : base.get? C = none := F.sim.keep.ext hC
  have hbD : base.get? D = none := F.sim.keep.ext hD
  obtain ⟨v, H', hil, hq2, hcase⟩ := hmk ys D hQ ⟨F.sim.fresh hD, F.sim.freshB hD⟩
  have hHC : H' C = none := by
    rcases hcase with ⟨_, rfl⟩ | ⟨_, rfl⟩
    · exact F.sim.fresh hC
    · rw [upd_other _ _ (Ne.symm hDC)]; exact F.sim.fresh hC
  have hHD : st.H D = none := F.sim.fresh hD
  have hCex : h'.get? C ≠ none := by
    obtain ⟨o, es, ep, ho, _⟩ := hm
    rw [ho]; simp
  have hgr : Gr st.H H' s := by
    rcases hcase with ⟨_, rfl⟩ | ⟨_, rfl⟩
    · exact Gr.refl _ _
    · refine ⟨fun b h => upd_other _ _ (fun e => h (e ▸ hHD)), fun b h e => ?_⟩
      by_cases q : b = D
      · rw [q]; exact hD
      · rw [upd_other _ _ q] at h; exact absurd e h
  have S1 : Sim G.hf (TT G) lay (fun a => Sys a ∨ a = C) (FZ A Sys) base { st with H := H' } h' := by
    refine F.sim.gen (New := fun a => a = C) hk (fun b q => by rw [q]; exact hC) (fun b q => by rw [q]; exact hCex) (fun b q => by rw [q]; exact hHC) hgr.stay hgr.new fun b o e e' => ?_
    rcases hcase with ⟨_, rfl⟩ | ⟨_, rfl⟩
    · rw [e'] at e; cases e
    · by_cases q : b = D
      · subst q
        rw [upd_self] at e; cases e
        refine .list hl hz (hr.less fun b' q => ?_)
        rcases q with q | q | q
        · by_cases e : b' = b
          · exact .inr (.inr (.inr e))
          · rw [upd_other _ _ e] at q; exact .inl q
        · exact .inr (.inl q)
        · exact .inr (.inr (.inl q))
      · rw [upd_other _ _ q, e'] at e; cases e
  have hrv : RV (NN H' (fun a => Sys a ∨ a = C)) h' v (.ref D) := by
    rcases hcase with ⟨rfl, rfl⟩ | ⟨rfl, rfl⟩
    · refine .lst (fun q => ?_) hl hz (hr.less fun b' q => ?_)
      · rcases q with q | q | q
        · exact q hHD
        · exact F.sim.live _ q hD
        · exact hDC q
      · rcases q with q | q | q
        · exact .inl q
        · exact .inr (.inl q)
        · exact .inr (.inr (.inl q))
    · exact .ref D
  refine st_one (st := { st with H := H' }) (s := { s with heap := h', toks := tk }) F.eo S1 htn hil hrv fun h3 tk3 S3 tc => ?_
  have hplC : ∀ i p, lay i = some p → C ≠ p.addr := fun i p hp e => F.sim.live _ (F.sim.sys i p hp).1 (e ▸ hC)
  refine ⟨m', hm.at' fun o e => tc C o (fun i _ p hp => hplC i p hp) e, fun h4 hs => ?_⟩
  have S4 : Sim G.hf (TT G) lay Sys (FZ A Sys) base { st with H := H', ρ := st.ρ.set i (some v) } h4 :=
    Sim.leave (New := fun a => a = C) S3 (fun _ q => q.2) (fun b o nb e => hs.extBut b o nb e) (fun i p hp => (F.sim.sys i p hp).1) (fun a q e => F.sim.live _ q (e ▸ hC)) (fun b h e => h (e ▸ hHC)) fun b q => by rw [q]; exact hbC
  refine hK .next .next _ _ hq2 .next ⟨F.rm, F.eo, F.us, S4, F.own, F.cold⟩ ⟨⟨h4, tk3, rfl⟩, fun b o hb hp e => ?_, fun b h e => hgr.new b h e, fun b h => ?_, rfl, by simp, fun b h e => ?_, fun _ b o hp e n => hs.extBut b o (fun q => by rw [q, hC] at e; cases e) (tc b o (fun i _ p hi => hp i p hi) ((hk b o e).1 n))⟩
  · have nb : b ≠ C := fun q => by rw [q, hC] at e; cases e
    refine ⟨fun n => hs.extBut b o nb (tc b o (fun i _ p hi => hp i p hi) ((hk b o e).1 n)), ?_⟩
    obtain ⟨sl, e'⟩ := (hk b o e).2
    exact ⟨sl, hs.extBut b _ nb (tc b _ (fun i _ p hi => hp i p hi) e')⟩
  · show H' b ≠ none; rw [hgr.stay b h]; exact h
  · cases q : s.heap.get? b with
    | none => exact h q
    | some o =>
      have hbC' : b ≠ C := fun q' => by rw [q', hC] at q; cases q
      have e4 : h4.get? b = none := e
      rw [hs.2 b hbC'] at e4
      by_cases hp : ∃ i p, lay i = some p ∧ b = p.addr
      · obtain ⟨i, p, hi, rfl⟩ := hp
        exact S3.live _ (.inl (F.sim.sys i p hi).1) e4
      · obtain ⟨sl, q'⟩ := (hk b o q).2
        have := tc b _ (fun i _ p hi hb => hp ⟨i, p, hi, hb⟩) q'
        rw [this] at e4; cases e4
end

end Mine
end

section
set_option autoImplicit false
namespace Mine
open PySem

section
variable {G : PG} {d : Nat} {c : Sc} {A : Around} {env : Env} {lay : Nat → Option Place} {Sys : Addr → Prop} {base : Heap} {st : St} {s : Shared}

theorem sole_none {tg y : Expr} {l : Nat} (h : isComp y = false) : swapsWithSole [tg] y l env = pure false := swaps_none h
theorem sole_case {i : Nat} {tg elt : Expr} {gens : List Comprehension} {sc : Scope} {p : Pos} {l : Nat} (h : chkN c i tg = true) : swapsWithSole [tg] (.ListComp elt gens sc p) l env = pure false ∨ swapsWithSole [tg] (.ListComp elt gens sc p) l env = pure true := by
  obtain ⟨x, pos, rfl, _⟩ := chkN_eq h
  have e : swapsWithSole [.Name x pos] (.ListComp elt gens sc p) l env = pure (env.blockKind == .function && env.kindOf x == some .local && pos.line == (Expr.ListComp elt gens sc p).pos.line
      && !(sc.names.any fun (n, k) => n == x && (k == .local || k == .cell))) := rfl
  rw [e]
  cases (env.blockKind == .function && env.kindOf x == some .local && pos.line == (Expr.ListComp elt gens sc p).pos.line && !(sc.names.any fun (n, k) => n == x && (k == .local || k == .cell)))
  · exact .inl rfl
  · exact .inr rfl

theorem snd_own (hc : CallSnd G d) {i : Nat} {a : Mine.A} {tg y : Expr} {pos : Pos} (hf : c.fns = G.tbl.map (·.1) ∧ c.xs = G.xs ∧ c.hots = G.hots) (ht : chkN c i tg = true) (ha : chkA c a y = true) (hn : okOwn a = true) : SS G d c (.own i a) (.Assign [tg] y pos) := by
  intro A env lay Sys base st s F Q X K E hW hK hX
  by_cases hcp : isComp y = true
  · -- a comprehension
    have key : ∀ e, chkE c e y = true → (a = .pure e ∨ (a = .thaw e)) → wpAny (model G.prog G.w) A (exec (.Assign [tg] y pos) env) K E s := by
      intro e he hae
      cases e with
      | comp elt t it =>
        replace he := onLC_inv he; obtain ⟨y0, gs, sc, p', rfl, he⟩ := he
        replace he := one_inv he; obtain ⟨g, rfl, he⟩ := he
        apply and2_elim he; clear he; intro h0 he
        apply and2_elim h0; clear h0; intro hz h0
        obtain ⟨tg', iter, ifs, ias⟩ := g
        have e0 := of_decide_eq_true h0
        simp only at hz e0 he
        cases ifs with
        | cons => exact ff hz
        | nil =>
        subst e0
        · split at he
          · rename_i xs hx
            apply and7_elim he; clear he; intro h1 h2 h3 h4 h00 h5 h6
            try simp only [Bool.not_eq_true'] at h1
            try simp only [Bool.not_eq_true'] at h2
            try simp only [Bool.not_eq_true'] at h3
            try simp only [Bool.not_eq_true'] at h4
            try simp only [Bool.not_eq_true'] at h00
            try simp only [Bool.not_eq_true'] at h5
            try simp only [Bool.not_eq_true'] at h6
            have hf' : (inner c xs sc.names).fns = G.tbl.map (·.1) ∧ (inner c xs sc.names).xs = G.xs ∧ (inner c xs sc.names).hots = G.hots := hf
            rcases sole_case (env := env) (elt := y0) (gens := [⟨tg', iter, [], 0⟩]) (sc := sc) (p := p') (l := pos.line) ht with hs | hs
            · exact ss_own F (sndA hc a c _ hf ha) ht hs hW hK hX
            · have hstep : CStep G d c A st base xs sc t [] y0 _ := cstep_plain (sndE hc elt _ _ hf' h6).1
              simp only [ws_0, ws_1, ws_2, ws_3, ws_4, ws_5, ws_6, ws_7, ws_8, ws_9, ws_10, ws_11, ws_12, ws_13, ws_14, ws_15, ws_16, pk_ret, pk_next] at hW
              rcases hae with rfl | rfl
              · simp only [wa_0, wa_1, wa_2, wa_3, wa_4, wa_5, we_0, we_1, we_2, we_3, we_4, we_5, we_6, we_7, we_8, we_9, we_10, we_11, we_12, we_13, we_14, we_15, we_16, we_17, we_18, we_19, we_20, we_21, we_22, we_23, we_24, we_25, we_26, we_27, we_28, we_29, we_30, we_31, we_32, we_33, we_34, we_35, we_36, we_37] at hW
                refine own_swap (QQ := fun ys => match putV i (.lst ys) st.ρ with
                  | some ρ' => Q .next { st with ρ := ρ' }
                  | none => False) F ((sndI hc it c _ hf h5).1 (ezOk_walk h00)) h4 (ezOk_inv h00) (tableOk_eq h2) h1 h3 hstep ht hs hW (fun ys D q _ => let q := putV_inv (P := fun ρ' => Q .next { st with ρ := ρ' }) q; ⟨_, _, q.1, q.2, .inl ⟨rfl, rfl⟩⟩) hK fun e s' q => hX e s' (q.toS F)
              · exact ff hn
          · cases he
      | compIf elt t it cd => rcases hae with rfl | rfl <;> exact ff hn
      | _ => exact ff (comp_only he hcp)
    cases a with
    | pure e => exact key e ha (.inl rfl)
    | thaw e => exact key e ((Bool.and_eq_true _ _).mp ha).2 (.inr rfl)
    | list as => obtain ⟨xs, p, rfl, _⟩ := onList_inv ha; exact ff hcp
    | callO f es => exact ff ha
    | dict => obtain ⟨p, rfl⟩ := onDict0_inv ha; exact ff hcp
    | new f es => obtain ⟨y', p', xs', q', rfl, _⟩ := onCallN_inv ha; exact ff hcp
  · exact ss_own F (sndA hc a c _ hf ha) ht (sole_none (by simpa using hcp)) hW hK hX
end

end Mine
end

section
set_option autoImplicit false
namespace Mine
open PySem

section
variable {G : PG} {d : Nat} {c : Sc} {A : Around} {env : Env} {lay : Nat → Option Place} {Sys : Addr → Prop} {base : Heap} {st : St} {s : Shared}

theorem chkTg_star {t : Tg} {tg : Expr} (h : chkTg c t tg = true) : noStar tg = true := by
  cases t with
  | var i => exact chkN_star h
  | tup is => exact ff h

theorem last_at {vs : List V} {W : V → Prop} {P : Prop} (h : match vs.getLast? with
    | some w => W w
    | none => False) (k : ∀ w, vs.getLast? = some w → W w → P) : P := by
  cases e : vs.getLast? with
  | none => rw [e] at h; exact False.elim h
  | some w => rw [e] at h; exact k w e h
theorem bound_at {o : Option (List (Option V))} {W : List (Option V) → Prop} {P : Prop} (h : match o with
    | some ρ' => W ρ'
    | none => False) (k : ∀ ρ', o = some ρ' → W ρ' → P) : P := by
  cases o with
  | none => exact False.elim h
  | some ρ' => exact k ρ' rfl h
theorem ref_val {N : Addr → Prop} {h : Heap} {v : V} {x : Value} {W : Nat → Prop} {P : Value → Prop} (hW : match v with
    | .ref a => W a
    | _ => False) (r : RV N h v x) (k : ∀ a, W a → P (.ref a)) : P x := by
  cases r with
  | ref a => exact k a hW
  | _ => exact False.elim hW
theorem list_at {o : Option AO} {W : List V → Prop} {P : Prop} (h : match o with
    | some (.list vs) => W vs
    | _ => False) (k : ∀ vs, o = some (.list vs) → W vs → P) : P := by
  rcases o with _ | o
  · exact False.elim h
  · cases o with
    | list vs => exact k vs rfl h
    | _ => exact False.elim h
/-- a list that is kept gets other things -/
theorem put_lst {ad : Nat} {xs : Array Value} {n : Nat} {vs vs' : List V} {f : Array Value → Array Value} {tk : Nat} (F : Fx0 G d c A env lay Sys base st s) (hH : st.H ad = some (.list vs)) (hB : st.B ad = none) (c1 : IsL s.heap ad xs n) (hz : (f xs).size ≤ sizeLine) (r : RVs (NN st.H Sys) s.heap vs' (f xs).toList) :
    Fx0 G d c A env lay Sys base { st with H := st.H.upd ad (.list vs') } { s with heap := s.heap.update ad (Obj.mapSeq f), toks := tk } ∧ Ps false lay (FZ A Sys) st s { st with H := st.H.upd ad (.list vs') } { s with heap := s.heap.update ad (Obj.mapSeq f), toks := tk } := by
  have hk : ∀ b ob, b ≠ ad → s.heap.get? b = some ob → (s.heap.update ad (Obj.mapSeq f)).get? b = some ob := fun b ob nb e => (Heap.get?_update_other _ _ (Ne.symm nb)).trans e
  have hl' := c1.update f
  exact ⟨⟨F.rm, F.eo, F.us, F.sim.write hH hB hk (.list hl' hz (r.upd hH hk)), F.own, F.cold⟩, Ps.write hH hk (by rw [hl']; exact nofun)⟩
theorem ss_append {e : E} {a : Mine.A} {o z : Expr} {ap cp pos : Pos} (he : SE G d c e o) (ha : SA G d c a z) (hb : baseX o = true) (hz : noStar z = true) (hl : (ap.endLine == cp.line) = true) :
    SS G d c (.append e a) (.Expr (.Call (.Attribute o (Str.ofString "append") ap) [z] [] cp) pos) := by
  intro A env lay Sys base st s F Q X K E hW hK hX
  refine wpAny_Expr_any ?_ (by simp [interactive, F.eo.kind]) rfl
  have hbase : attributeBase o (Str.ofString "append") env (eval o env) = eval o env := by cases o <;> first | rfl | exact ff hb
  refine wpAny_Call_method (T := "list") (id := "list.append") hbase (by rw [starEach_cons hz]; rfl) hl PySem.F.plainAttrs_list PySem.F.slot_list_append PySem.F.type_list_append ?_
  refine (he F).weak _ _ _ E hW (fun v va s₁ h₁ r₁ k₁ fr => ?_) fun e s' q => hX e s' (q.toS F)
  clear fr
  have F₁ := F.keeps k₁
  apply ref_val h₁ r₁; clear h₁ r₁; intro ad h₁
  apply list_at h₁; clear h₁; intro vs0 hH h₁
  cases F₁.sim.objs _ _ hH with
  | list b1 b2 b3 =>
    refine ⟨b1.isList.typeIs, by rintro a ⟨⟩; exact ⟨_, b1, rfl⟩, ?_⟩
    rw [starEach_cons hz]
    refine P.append_list (ha F₁ _ _ _ E h₁ (fun w H' val s₂ q F₂ r k g => ?_) fun e s' q => hX e s' ((Rz.trans k₁ q).toS F))
    apply list_at q; clear q; intro vs hH' q
    cases F₂.sim.objs _ _ hH' with
    | @list xs n _ c1 c2 c3 =>
      have hp := put_lst (f := fun xs => xs.push val) (tk := s₂.toks) F₂.toFx0 hH' q.1 c1 (by rw [Array.size_push, ← c3.size]; exact q.2.1) (by rw [Array.toList_push]; exact c3.append (.cons r .nil))
      exact ⟨xs, n, c2, c1, hK .next .next _ _ q.2.2 .next hp.1 (((Ps.ofKp k₁).trans (Ps.ofK k g)).trans hp.2)⟩

theorem RVs.split {N : Addr → Prop} {h : Heap} {vs : List V} : ∀ {xs : List Value} {w : V}, RVs N h vs xs → vs.getLast? = some w → ∃ ys x, xs = ys ++ [x] ∧ RVs N h vs.dropLast ys ∧ RV N h w x := by
  induction vs with
  | nil => intro xs w r e; cases e
  | cons v vs ih =>
    intro xs w r e
    cases r with
    | cons r1 r2 =>
      cases vs with
      | nil => cases r2; cases e; exact ⟨[], _, rfl, .nil, r1⟩
      | cons u vs =>
        rw [List.getLast?_cons_cons] at e
        obtain ⟨ys, x, rfl, h1, h2⟩ := ih r2 e
        exact ⟨_ :: ys, x, rfl, .cons r1 h1, h2⟩

theorem erase_last {zs : List Value} {x : Value} : (zs ++ [x]).toArray.eraseIdxIfInBounds ((zs ++ [x]).toArray.size - 1) = zs.toArray := by
  apply Array.ext'
  have hlt : (zs ++ [x]).toArray.size - 1 < (zs ++ [x]).toArray.size := by simp
  rw [Array.eraseIdxIfInBounds, dif_pos hlt, Array.toList_eraseIdx]
  simp [List.eraseIdx_append_of_length_le]
theorem ss_pop {t : Tg} {e : E} {y : Str} {p ap cp pos : Pos} {tg : Expr} (he : SE G d c e (.Name y p)) (ht : chkTg c t tg = true) (hl : (ap.endLine == cp.line) = true) :
    SS G d c (.pop t e) (.Assign [tg] (.Call (.Attribute (.Name y p) (Str.ofString "pop") ap) [] [] cp) pos) := by
  intro A env lay Sys base st s F Q X K E hW hK hX
  have hsw : swappedStores [tg] (.Call (.Attribute (.Name y p) (Str.ofString "pop") ap) [] [] cp) env = pure none := by cases tg <;> rfl
  refine asg_plain rfl hsw (chkTg_star ht) ?_
  refine wpAny_Call_method (T := "list") (id := "list.pop") rfl rfl hl PySem.F.plainAttrs_list PySem.F.slot_list_pop PySem.F.type_list_pop ?_
  refine (he F).weak _ _ _ E hW (fun v va s₁ h₁ r₁ k₁ fr => ?_) fun e s' q => hX e s' (q.toS F)
  clear fr
  have F₁ := F.keeps k₁
  apply ref_val h₁ r₁; clear h₁ r₁; intro ad h₁
  apply list_at h₁; clear h₁; intro vs hH h₁
  apply last_at h₁; clear h₁; intro w hw h₁
  cases F₁.sim.objs _ _ hH with
  | @list xs n _ b1 b2 b3 =>
    refine ⟨b1.isList.typeIs, by rintro a ⟨⟩; exact ⟨_, b1, rfl⟩, ?_⟩
    obtain ⟨zs, x, hxs, r1, r2⟩ := b3.split hw
    have hx' : xs = (zs ++ [x]).toArray := by rw [← hxs]
    subst hx'
    refine P.pop_list b1 (y := x) (by simp) ?_ b2
    have hp := put_lst (f := fun xs' => xs'.eraseIdxIfInBounds ((zs ++ [x]).toArray.size - 1)) (tk := s₁.toks) F₁.toFx0 hH h₁.1 b1 (by rw [erase_last]; simp at b2 ⊢; omega) (vs' := vs.dropLast) (by rw [erase_last]; exact r1)
    apply bound_at h₁.2; intro ρ' hb h₂
    refine st_tg F.cold F.eo hp.1.sim ht hb (r2.ps F₁.sim hp.2) fun h' tk S'' tc => ?_
    exact hK .next .next _ _ h₂ .next ⟨F.rm, F.eo, F.us, S'', F.own, F.cold⟩ (((Ps.ofKp k₁).trans hp.2).trans (Ps.ofTc S'' tc (bindT_len hb)))

end

end Mine
end

section
set_option autoImplicit false
namespace Mine
open PySem
theorem dput_len (ks : List At) (v : V) : ∀ kvs : List (List At × V), (dput ks v kvs).length ≤ kvs.length + 1
  | [] => Nat.le_refl _
  | (k, w) :: r => by
    have := dput_len ks v r
    by_cases h : k = ks <;> simp [dput, h] <;> omega
/-- what a store leaves -/
theorem put_at {N : Addr → Prop} {h : Heap} {ks : List At} {v : V} {val : Value} {ka : Addr} (rk : RV N h (keyV ks) (.ref ka)) (rv : RV N h v val) : ∀ {kvs : List (List At × V)} {xs : List (List At × Addr × Value)}, RVs N h (kvs.map (·.2)) (xs.map (·.2.2)) → kvs.map (·.1) = xs.map (·.1) → (xs.map (·.1)).Nodup →
    RVs N h ((dput ks v kvs).map (·.2)) ((storedH xs ks ka val).map (·.2.2)) ∧ (dput ks v kvs).map (·.1) = (storedH xs ks ka val).map (·.1)
  | [], [], _, _, _ => ⟨.cons rv .nil, rfl⟩
  | [], _ :: _, _, e, _ => by cases e
  | _ :: _, [], _, e, _ => by cases e
  | (k, w) :: kvs, (k', b, x) :: xs, r, e, hn => by
    simp only [List.map_cons, List.cons.injEq] at e
    obtain ⟨rfl, e⟩ := e
    rw [List.map_cons, List.nodup_cons] at hn
    cases r with
    | cons r1 r2 =>
      by_cases hk : k = ks
      · subst hk
        have e1 : dput k v ((k, w) :: kvs) = (k, v) :: kvs := by simp [dput]
        have e2 : storedH ((k, b, x) :: xs) k ka val = (k, b, val) :: xs := by
          have : xs.map (putAt k val) = xs := map_putAt_of_not_mem xs k val hn.1
          simp [storedH, atKey, putAt, this]
        rw [e1, e2]
        exact ⟨.cons rv r2, by simp [e]⟩
      · obtain ⟨i1, i2⟩ := put_at rk rv r2 e hn.2
        have e1 : dput ks v ((k, w) :: kvs) = (k, w) :: dput ks v kvs := by simp [dput, hk]
        have e2 : storedH ((k, b, x) :: xs) ks ka val = (k, b, x) :: storedH xs ks ka val := by
          have : atKey ((k, b, x) :: xs) ks = atKey xs ks := by simp [atKey, hk]
          unfold storedH
          rw [this]
          split
          · simp [putAt, hk]
          · rfl
        rw [e1, e2]
        exact ⟨.cons r1 i1, by simp [i2]⟩
theorem stored_mem {ks : List At} {ka : Addr} {val : Value} {xs : List (List At × Addr × Value)} {y : List At × Addr × Value} (h : y ∈ storedH xs ks ka val) : (y.1 = ks ∧ y.2.1 = ka) ∨ ∃ x ∈ xs, x.1 = y.1 ∧ x.2.1 = y.2.1 := by
  unfold storedH at h
  split at h
  · obtain ⟨x, hx, rfl⟩ := List.mem_map.mp h
    refine .inr ⟨x, hx, ?_⟩
    unfold putAt
    split <;> exact ⟨rfl, rfl⟩
  · rcases List.mem_append.mp h with h | h
    · exact .inr ⟨y, h, rfl, rfl⟩
    · rw [List.mem_singleton.mp h]; exact .inl ⟨rfl, rfl⟩
section
variable {G : PG} {d : Nat} {c : Sc}
theorem ss_setkey {e k v : E} {o i y : Expr} {p pos : Pos} (he : SE G d c e o) (hk : SE G d c k i) (hv : SE G d c v y) (hcp : isComp y = false) : SS G d c (.setkey e k v) (.Assign [.Subscript o i p] y pos) := by
  intro A env lay Sys base st s F Q X K E hW hK hX
  refine asg_plain (sole_none hcp) rfl rfl ?_
  refine (hv F).weak _ _ _ E hW (fun w val s₁ q₁ r₁ k₁ _ => ?_) fun e s' q => hX e s' (q.toS F)
  have F₁ := F.keeps k₁
  rw [assign_Subscript]
  refine wpAny_bind (wpAny_holding ((he F₁).weak _ _ _ E q₁ (fun u ov s₂ q₂ r₂ k₂ _ => ?_) fun e s' q => hX e s' ((Rz.trans k₁ q).toS F)))
  have F₂ := F₁.keeps k₂
  refine wpAny_bind (wpAny_holding ((hk F₂).weak _ _ _ E q₂ (fun kk iv s₃ q₃ r₃ k₃ _ => ?_) fun e s' q => hX e s' ((Rz.trans (k₁.trans k₂) q).toS F)))
  have F₃ := F₂.keeps k₃
  obtain ⟨ad, kvs, e', hH, q₄⟩ := dictP_inv q₃
  subst e'
  obtain ⟨ks, hks, hB, hlt, hQ⟩ := keyP_inv q₄
  subst hks
  refine wpAny_bind (wpAny_standAt ?_)
  cases r₂
  obtain ⟨ka, rfl, hka⟩ := key_at (prog := G.prog) (w := G.w) r₃
  cases F₃.sim.objs ad _ hH with
  | dict a1 a2 a3 a4 a5 a6 a7 a8 =>
    rename_i es ep xs
    obtain ⟨xs', D⟩ : ∃ xs', DAt G.prog G.w (NN st.H Sys) s₃.heap ad kvs xs' ∧ xs' = xs := by
      refine ⟨xs, ⟨⟨_, es, ep, a1, ⟨rfl, rfl, rfl⟩, rfl, a2, fun x hx => ?_, a3⟩, a7, a5, a8, a4⟩, rfl⟩
      obtain ⟨kb, e, hk⟩ := key_at (prog := G.prog) (w := G.w) (a6 x hx)
      cases e; exact hk
    obtain ⟨D, rfl⟩ := D
    refine wpAny_bind (wpAny_holding (wpAny_setItem_heap (knd := tupleKind (mixKind G.prog G.w)) (dRoom F₃.rm) hka D.of (fun h' hd' hs' => wpAny_release ?_) a4))
    have hkk : ∀ b ob, b ≠ ad → s₃.heap.get? b = some ob → h'.get? b = some ob := fun b ob nb e => (hs'.2 b nb).trans e
    have r₃' : RV (NN (AH.upd st.H ad (.dict (dput ks w kvs))) Sys) h' (keyV ks) (.ref ka) := r₃.upd hH hkk
    have r₁' : RV (NN (AH.upd st.H ad (.dict (dput ks w kvs))) Sys) h' w val := (r₁.kz (k₂.trans k₃).hw).upd hH hkk
    obtain ⟨p1, p2⟩ := put_at r₃' r₁' (a7.upd hH hkk) a5 a3
    obtain ⟨o', es', ep', g1, g2, g3, g4, g5, g6⟩ := hd'
    have hro : RO G.hf (NN (AH.upd st.H ad (.dict (dput ks w kvs))) Sys) h' ad (.dict (dput ks w kvs)) := by
      refine .dict (es := es') (ep := ep') (xs := storedH xs' ks ka val) ?_ g4 g6 ?_ p2 (fun y hy => ?_) p1 a8
      · obtain ⟨oc, od, odt, osl⟩ := o'
        obtain ⟨e1, e2, e3⟩ := g2
        cases e1; cases e2; cases e3
        have g3 : odt = .dict es' ep' := g3
        rw [← g3]; exact g1
      · have := congrArg List.length p2
        simp only [List.length_map] at this
        rw [← this]
        exact Nat.le_trans (dput_len ks w kvs) hlt
      · rcases stored_mem hy with ⟨e1, e2⟩ | ⟨x, hx, e1, e2⟩
        · rw [e1, e2]; exact r₃'
        · rw [← e1, ← e2]; exact (a6 x hx).upd hH hkk
    have S' := F₃.sim.write hH hB hkk hro
    exact hK .next .next _ _ hQ .next ⟨F.rm, F.eo, F.us, S', F.own, F.cold⟩ ((Ps.ofKp (k₁.trans (k₂.trans k₃))).trans (Ps.write hH hkk (by rw [g1]; exact nofun)))
end
end Mine
end

section
set_option autoImplicit false
namespace Mine
open PySem PyProof.Rows
section
variable {G : PG} {d : Nat} {c : Sc}
theorem ss_setattr {e v : E} {n : String} {o y : Expr} {p pos : Pos} (he : SE G d c e o) (hv : SE G d c v y) (hcp : isComp y = false) : SS G d c (.setattr e n v) (.Assign [.Attribute o (Str.ofString n) p] y pos) := by
  intro A env lay Sys base st s F Q X K E hW hK hX
  simp only [ws_0, ws_1, ws_2, ws_3, ws_4, ws_5, ws_6, ws_7, ws_8, ws_9, ws_10, ws_11, ws_12, ws_13, ws_14, ws_15, ws_16, pk_ret, pk_next] at hW
  refine plainObj_wpAny_Assign_Attribute ?_ (swaps_none hcp)
  refine (hv F).weak _ _ _ E hW (fun w val s₁ q₁ r₁ k₁ f₁ => ?_) fun e s' q => hX e s' (q.toS F)
  have F₁ := F.keeps k₁
  refine (he F₁).weak _ _ _ E q₁ (fun u ov s₂ q₂ r₂ k₂ f₂ => ?_) fun e s' q => hX e s' ((Rz.trans k₁ q).toS F)
  have F₂ := F₁.keeps k₂
  split at q₂
  · rename_i C ns ad
    obtain ⟨hB, q₂⟩ := q₂
    split at q₂
    · rename_i C' ns' vs hH
      obtain ⟨hh, rfl, rfl, q₂⟩ := q₂
      split at q₂
      · rename_i vs' hset
        cases r₂ with
        | iref n1 i =>
          rename_i x
          cases F₂.sim.objs _ _ hH with
          | inst o r =>
            rename_i xs
            obtain ⟨N0, mN, k, fs, R, hns⟩ := hasC_row F₂.top hh
            obtain ⟨z1, z2⟩ := R.name hns (set_mem hset)
            obtain ⟨nm, qn, bs, sn, sub, col, dd, k0, k1, k2, k3, k5, hC⟩ := R.cls.obj
            obtain ⟨ox, g1, g2, g3, g4, g5⟩ := id i
            have hxC : x ≠ C' := by
              rintro rfl
              rw [g1] at hC; cases hC
              exact g3 _ rfl
            refine store_attr (ns := ns'.map Str.ofString) PySem.F.store_object hC R.cls.ns R.sa z1 z2 hxC (i.inst o.2.2.2) (fun h' tk' I' hk' hsame => ?_) (fun y hy => ?_) (by rw [List.length_map, sizeLine_eq]; have := o.2.2.1; omega)
            · obtain ⟨o₁, e₁, c₁, dt₁, sl₁, dk₁⟩ := hsame ox g1
              have eo : o₁ = ox := by
                obtain ⟨oc, od, odt, osl⟩ := ox
                obtain ⟨oc', od', odt', osl'⟩ := o₁
                cases c₁; cases dt₁; cases sl₁; cases g4
                cases dk₁ _ rfl; rfl
              have hkk : ∀ b ob, b ≠ ad → s₂.heap.get? b = some ob → h'.get? b = some ob := fun b ob nb e => by
                by_cases hb : b = x
                · rw [hb, g1] at e; cases e; rw [hb, e₁, eo]
                · exact hk' b ob hb (fun o₀ d' e₀ ed => by
                    rw [g1] at e₀; cases e₀; rw [g4] at ed; cases ed; exact nb) e
              have r₁' : RV (NN (AH.upd st.H ad (.inst C' ns' vs')) Sys) h' w val := (r₁.kz k₂.hw).upd hH hkk
              obtain ⟨xs', p1, p2, p3⟩ := attr_set r₁' hset (r.upd hH hkk) o.2.1
              have hns' : NsOf h' ad ns' xs' := by
                refine ⟨o.1.trans p2.symm, o.2.1, o.2.2.1, ?_⟩
                obtain ⟨o', e', _, _, hd'⟩ := I'
                rw [e₁, eo] at e'; cases e'
                rcases hd' with ⟨hn0, _⟩ | ⟨d', hd', _, hns'⟩
                · rw [g4] at hn0; cases hn0
                · rw [g4] at hd'; cases hd'
                  rw [← funext p3]; exact hns'
              have S' := F₂.sim.write hH hB hkk (.inst hns' p1)
              exact hK .next .next _ _ q₂ .next ⟨F.rm, F.eo, F.us, S', F.own, F.cold⟩ ((Ps.ofKp (k₁.trans k₂)).trans (Ps.write hH hkk (fun e => hns'.ne e)))
            · have := lk_mem hy
              rwa [List.map_fst_zip (Nat.le_of_eq (by rw [List.length_map]; exact o.1))] at this
      · exact q₂.elim
    · exact q₂.elim
  · exact q₂.elim
end
end Mine
end

section
set_option autoImplicit false
namespace Mine
open PySem

/-- things off limits are turned -/
theorem Sim.turn {hsh : HFn} {T : Heap → Prop} {lay : Nat → Option Place} {Sys Z Mod : Addr → Prop} {base : Heap} {st : St} {h h' : Heap} (S : Sim hsh T lay Sys Z base st h) (hM : ∀ b, Mod b → Sys b) (hk : ∀ b o, ¬ Mod b → h.get? b = some o → h'.get? b = some o)
    (hlay : ∀ i p, lay i = some p → ¬ Mod p.addr) (hH : ∀ b, st.H b ≠ none → ¬ Mod b) (hbase : ∀ b, Mod b → base.get? b = none) (hlive : ∀ b, Mod b → h'.get? b ≠ none) : Sim hsh T lay Sys Z base st h' := by
  have hk' : ∀ b o, ¬ NN st.H Sys b → h.get? b = some o → h'.get? b = some o := fun b o nb e => hk b o (fun q => nb (.inr (hM b q))) e
  have hpl : ∀ i p, lay i = some p → ∀ o, h.get? p.addr = some o → h'.get? p.addr = some o := fun i p hp o e => hk _ o (hlay i p hp) e
  refine ⟨fun b o e => have nb : ¬ Mod b := fun q => by rw [hbase b q] at e; cases e
    ⟨fun n => hk b o nb ((S.keep b o e).1 n), let ⟨sl, e'⟩ := (S.keep b o e).2; ⟨sl, hk b _ nb e'⟩⟩, S.zs, S.top, fun i v p a b => ?_, fun i p a => ?_, S.inj, S.sys, fun a o e => ?_, S.own, fun a q e => ?_, S.ent, S.dis⟩
  · obtain ⟨val, x, y⟩ := S.vals i v p a b
    refine ⟨val, ?_, y.gen (fun _ q => .inl q) hk'⟩
    have hp := hpl i p b
    cases p with
    | loc L z =>
      obtain ⟨m, ⟨o, es, ep, ho, r⟩, e⟩ := x
      exact ⟨m, ⟨o, es, ep, hp o ho, r⟩, e⟩
    | cell cc =>
      obtain ⟨o, ho, r⟩ := x
      exact ⟨o, hp o ho, r⟩
  · have hp := hpl i p a
    have x := S.ok i p a
    cases p with
    | loc L z =>
      obtain ⟨m, o, es, ep, ho, r⟩ := x
      exact ⟨m, o, es, ep, hp o ho, r⟩
    | cell cc =>
      obtain ⟨v, o, ho, r⟩ := x
      exact ⟨v, o, hp o ho, r⟩
  · exact (S.objs a o e).gen (fun _ q => .inl q) hk' fun o' e' => hk a o' (hH a (by rw [e]; simp)) e'
  · by_cases hm : Mod a
    · exact hlive a hm e
    · cases q' : h.get? a with
      | none => exact S.live a q q'
      | some o => rw [hk a o hm q'] at e; cases e

theorem RzS.less {mg : Str → Option Value} {A : Around} {Sys Sys' : Addr → Prop} {base : Heap} {s s' : Shared} {X : String → St → Prop} {e : Value} (r : RzS mg A Sys' base s X e s') (hs : ∀ a, Sys a → Sys' a) (ez : FZ A Sys' = FZ A Sys) (hf : ∀ h, FrOk A Sys' h → FrOk A Sys h) : RzS mg A Sys base s X e s' := by
  obtain ⟨c, C, x, ctx, st', h1, h2, h3, h4, h5, h6, h7, h8⟩ := r
  rw [ez] at h6
  exact ⟨c, C, x, ctx, st', h1, h2, h3, h4, hf _ h5, h6, h7, h8.imp (fun f => f.before fun a n => ⟨n.1, fun q => n.2 (hs a q)⟩) fun f => f.before fun a n => ⟨n.1, fun q => n.2 (hs a q)⟩⟩
/-- what the turns of a loop leave as it was -/
structure Lp (wr : List Addr) (lay : Nat → Option Place) (Z : Addr → Prop) (st : St) (h2 : Heap) (st' : St) (h : Heap) : Prop where
  old : ∀ b o, st.H b = none → (∀ i p, lay i = some p → b ≠ p.addr) → b ∉ wr → h2.get? b = some o → (¬ Z b → h.get? b = some o) ∧ ∃ sl, h.get? b = some { o with slots := sl }
  new : ∀ b, st'.H b ≠ none → st.H b = none → h2.get? b = none
  stay : ∀ b, st.H b ≠ none → st'.H b ≠ none
  B : st'.B = st.B
  len : st'.ρ.length = st.ρ.length
  ext : ∀ b, b ∉ wr → h2.get? b ≠ none → h.get? b ≠ none
section
variable {wr : List Addr} {lay : Nat → Option Place} {Z : Addr → Prop} {st st' : St} {h2 h : Heap}
theorem none_of {α : Type} {o : Option α} (h : ¬ o ≠ none) : o = none := by
  cases o with
  | none => rfl
  | some x => exact absurd nofun h
theorem Lp.refl : Lp wr lay Z st h2 st h2 := ⟨fun _ o _ _ _ e => ⟨fun _ => e, o.slots, e⟩, fun _ h e => absurd e h, fun _ h => h, rfl, rfl, fun _ _ h => h⟩
theorem Lp.e0 (x : Lp wr lay Z st h2 st' h) {b : Addr} {o : Obj} (e1 : st.H b = none) (e4 : h2.get? b = some o) : st'.H b = none := none_of fun q => by rw [x.new b q e1] at e4; cases e4
theorem Lp.turn {h3 : Heap} (x : Lp wr lay Z st h2 st' h) (hk : ∀ b o, b ∉ wr → h.get? b = some o → h3.get? b = some o) : Lp wr lay Z st h2 st' h3 :=
  ⟨fun b o e1 e2 e3 e4 => ⟨fun n => hk b o e3 ((x.old b o e1 e2 e3 e4).1 n), let ⟨sl, e⟩ := (x.old b o e1 e2 e3 e4).2; ⟨sl, hk b _ e3 e⟩⟩, x.new, x.stay, x.B, x.len, fun b w e q => x.ext b w e (none_of fun n => by
    obtain ⟨o, ho⟩ := Option.ne_none_iff_exists'.mp n
    rw [hk b o w ho] at q; cases q)⟩
theorem Lp.step {q : Bool} {st5 : St} {s s5 : Shared} (x : Lp wr lay Z st h2 st' s.heap) (hx : ∀ b ∈ wr, s.heap.get? b ≠ none) (p : Ps q lay Z st' s st5 s5) : Lp wr lay Z st h2 st5 s5.heap :=
  ⟨fun b o e1 e2 e3 e4 => ⟨fun n => (p.old b o (x.e0 e1 e4) e2 ((x.old b o e1 e2 e3 e4).1 n)).1 n, by
    obtain ⟨_, g1⟩ := (x.old b o e1 e2 e3 e4).2
    obtain ⟨sl, g2⟩ := (p.old b _ (x.e0 e1 e4) e2 g1).2
    exact ⟨sl, g2⟩⟩, fun b e1 e2 => none_of fun e => have n := p.new b e1 (none_of fun q => e (x.new b q e2)); x.ext b (fun w => hx b w n) e n, fun b e => p.stay b (x.stay b e), p.B.trans x.B, p.len.trans x.len, fun b w e => p.ext b (x.ext b w e)⟩
theorem Lp.ps {s : Shared} {tk : Nat} (x : Lp wr lay Z st h2 st' h) (k : HW Z s.heap h2) (hwr : ∀ b ∈ wr, s.heap.get? b = none) : Ps false lay Z st s st' { s with heap := h, toks := tk } :=
  ⟨⟨h, tk, rfl⟩, fun b o e1 e2 e => have nb : b ∉ wr := fun q => by rw [hwr b q] at e; cases e
    ⟨fun n => (x.old b o e1 e2 nb ((k b o e).1 n)).1 n, let ⟨_, g1⟩ := (k b o e).2; let ⟨sl, g2⟩ := (x.old b _ e1 e2 nb g1).2; ⟨sl, g2⟩⟩, fun b e1 e2 => k.ext (x.new b e1 e2), x.stay, x.B, x.len, fun b e => x.ext b (fun w => e (hwr b w)) fun q => e (k.ext q), nofun⟩
/-- what is tracked is not the walk's own -/
theorem Lp.trk {hsh : HFn} {N : AH} {s : Heap} (x : Lp wr lay Z st h2 st' h) (hw : ∀ b ∈ wr, h2.get? b ≠ none) (ho : ∀ b o, st.H b = some o → ∃ ob, s.get? b = some ob) (hwr : ∀ b ∈ wr, s.get? b = none) : ∀ b, st'.H b ≠ none → b ∉ wr := fun b hb w => hw b w (x.new b hb (none_of fun n => by
  obtain ⟨o, e⟩ := Option.ne_none_iff_exists'.mp n
  obtain ⟨ob, e'⟩ := ho b o e
  rw [hwr b w] at e'; cases e'))
end
section
variable {G : PG} {d : Nat} {c : Sc} {A : Around} {env : Env} {lay : Nat → Option Place} {Sys : Addr → Prop} {base : Heap} {st : St} {s : Shared}
theorem HdOk.hq {A : Around} {Sys : Addr → Prop} {h : Heap} (x : HdOk A Sys h) : Hq A h := x.imp id fun ⟨y, o, vs, h1, _, h2⟩ => ⟨y, o, vs, h1, h2⟩
/-- ahead of each turn -/
inductive InvF (G : PG) (A : Around) (lay : Nat → Option Place) (Sys Sys' : Addr → Prop) (base : Heap) (st : St) (s : Shared) (vs : List V) (wr : List Addr) (Si : Nat → Heap → Prop) (h2 : Heap) (Fo : List V → St → Prop) (n : Nat) (s' : Shared) : Prop
  | mk (i st' h tk) : n = vs.length - i → i ≤ vs.length → s' = { s with heap := h, toks := tk } → Fo (vs.drop i) st' → Si i h → Sim G.hf (TT G) lay Sys' (FZ A Sys') base st' h → FrOk A Sys' h → Lp wr lay (FZ A Sys) st h2 st' h → InvF G A lay Sys Sys' base st s vs wr Si h2 Fo n s'
theorem HdOk.at {h2 : Heap} {wr : List Addr} {st' : St} {h h' : Heap} {Sys' : Addr → Prop} (x : HdOk A Sys s.heap) (S : Sim G.hf (TT G) lay Sys (FZ A Sys) base st s.heap) (k2 : HW (FZ A Sys) s.heap h2) (hwr : ∀ b ∈ wr, s.heap.get? b = none) (hS' : ∀ a, Sys' a → Sys a ∨ a ∈ wr) (p : Lp wr lay (FZ A Sys) st h2 st' h)
    (hk : ∀ b o, b ∉ wr → (∀ i p, lay i = some p → b ≠ p.addr) → h.get? b = some o → h'.get? b = some o) : HdOk A Sys' h' := x.imp id fun ⟨y, o, vs, h1, g2, h3, h4⟩ => by
  have yw : y ∉ wr := fun q => by rw [hwr y q] at h3; cases h3
  have yl : ∀ i p, lay i = some p → y ≠ p.addr := fun i p hp e => g2 (e ▸ (S.sys i p hp).1)
  have yn : st.H y = none := none_of fun n => by
    obtain ⟨ob, e⟩ := Option.ne_none_iff_exists'.mp n
    exact (S.objs y ob e).nofields h3 h4.1
  exact ⟨y, o, vs, h1, fun q => (hS' y q).elim g2 yw, hk y o yw yl ((p.old y o yn yl yw ((k2 y o h3).1 fun q => g2 q.2)).1 fun q => g2 q.2), h4⟩
theorem ss_for {t : Tg} {it : It} {b : Bl} {tg y : Expr} {bs : List Stmt} {pos : Pos} (hi : SI G d c it y) (ht : chkTg c t tg = true) (hset : isSetX y = false) (hez : isEZ it = true → isTupX tg = true) (hdead : c.dead = false) (hb : SB G d c b bs) : SS G d c (.for t it b) (.For tg y bs [] pos) := by
  intro A env lay Sys base st s F Q X K E hW hK hX
  refine wpAny_For (hi F _ _ _ E hW (fun vs ds I s₂ hq k io => ?_) fun e s' q => hX e s' (q.toS F)) (folded_plain hset env)
  obtain ⟨hds, hfor⟩ := hq
  generalize isEZ it = nw at io hez
  obtain ⟨fp, wr, P, Mi, Si, W, hsi, hwr, hfp, hdep, hitem⟩ := io.ex
  obtain ⟨h2, t2, rfl, k2⟩ := id k
  generalize hSy : (fun a => Sys a ∨ a ∈ wr) = Sys'
  have hS' : ∀ a, Sys' a → Sys a ∨ a ∈ wr := fun a q => by rw [← hSy] at q; exact q
  have hS1 : ∀ a, Sys a → Sys' a := fun a q => hSy ▸ Or.inl q
  have hS2 : ∀ a, a ∈ wr → Sys' a := fun a q => hSy ▸ Or.inr q
  have hSw : ∀ a, Sys a → a ∉ wr := fun a q e => F.sim.live a q (hwr a e)
  have hbw : ∀ a, a ∈ wr → base.get? a = none := fun a q => F.sim.keep.ext (hwr a q)
  have ez : FZ A Sys' = FZ A Sys := funext fun b => propext ⟨fun q => ⟨q.1, F.za q.1⟩, fun q => ⟨q.1, hS1 _ q.2⟩⟩
  have hfz : ∀ b ∈ fp, ¬ ZA A b := fun b hb z => by
    by_cases hbw : b ∈ wr
    · exact F.nz (hwr b hbw) z
    · rcases hdep b hb hbw with q | q
      · exact q (.inr (F.za z))
      · exact q.2 (F.sim.dis b (F.za z))
  have frl : ∀ h, FrOk A Sys' h → FrOk A Sys h := fun h ⟨lv, l, e, f⟩ => ⟨fun a q => lv a (hS1 a q), l, e, fun v hv => let ⟨g1, L, o, g2, g3, g4⟩ := f v hv; ⟨g1, L, o, g2, F.za ⟨l, v, e, hv, g2⟩, g4⟩⟩
  have hpw : ∀ i p, lay i = some p → p.addr ∉ wr := fun i p hp => hSw _ (F.sim.sys i p hp).1
  have trk : ∀ {st' : St} {h : Heap}, Lp wr lay (FZ A Sys) st h2 st' h → ∀ b, st'.H b ≠ none → b ∉ wr := fun p => p.trk (hsh := G.hf) (N := st.H) (W.ex 0 h2 hsi) (fun b o e => (F.sim.objs b o e).exists) hwr
  -- out of the loop
  have fin : ∀ (f : Fl) (fl : Flow) (st' : St) (h h1 : Heap) (tk : Nat), Q f st' → FlR (NN st'.H Sys') h1 f fl → Sim G.hf (TT G) lay Sys' (FZ A Sys') base st' h → Lp wr lay (FZ A Sys) st h2 st' h1 → (∀ b o, b ∉ wr → h.get? b = some o → h1.get? b = some o) → K fl { s with heap := h1, toks := tk } := by
    intro f fl st' h h1 tk hq hfl hS p hk
    refine hK f fl st' _ hq ?_ ⟨F.rm, F.eo, F.us, ez ▸ Sim.leave (New := fun a => a ∈ wr) (hSy ▸ hS) (fun b q => F.za q.1) hk (fun i p hp => (F.sim.sys i p hp).1) hSw (trk p) hbw, F.own, F.cold⟩ (p.ps k2 hwr)
    cases hfl with
    | next => exact .next
    | brk => exact .brk
    | cont => exact .cont
    | ret r => exact .ret (r.less fun b q => q.elim .inl fun q => .inr (hS1 b q))
  have S0 : Sim G.hf (TT G) lay Sys' (FZ A Sys') base st h2 := by rw [ez, ← hSy]; exact F.sim.enter (New := fun a => a ∈ wr) k2 hwr (W.ex 0 h2 hsi)
  have f0 : FrOk A Sys' h2 := let ⟨_, l, e, f⟩ := F.fr.kz k2; ⟨S0.live, l, e, fun v hv => let ⟨g1, L, o, g2, g3, g4⟩ := f v hv; ⟨g1, L, o, g2, hS1 L g3, g4⟩⟩
  refine codeAny_forLoop_any (InvF G A lay Sys Sys' base st s vs wr Si h2 (forL t (fun st' K => WB (G.cx d) b st' K X) Q)) ?_ vs.length ⟨0, st, h2, t2, rfl, Nat.zero_le _, rfl, hfor, hsi, S0, f0, Lp.refl⟩
  rintro n s' ⟨i, st', h, tk, hn, hil, rfl, hfl, hs_i, hS, hfo, lp⟩
  have hyw : ∀ y, A.handled = some (.ref y) → y ∉ wr := fun y e hb => by
    rcases F.hdo hdead with q | ⟨y', o, vs, h1, h2, h3, _⟩
    · rw [q] at e; cases e
    · rw [h1] at e; cases e; rw [hwr _ hb] at h3; cases h3
  rcases Nat.lt_or_ge i vs.length with hlt | hge
  · have hx : vs[i]? = some vs[i] := List.getElem?_eq_getElem hlt
    rw [List.drop_eq_getElem_cons hlt] at hfl
    apply bound_at hfl; clear hfl; intro ρ' hbd hfl
    refine W.item i _ _ _ hlt hs_i fun val h1 tk1 hMi hfr hk1 => ?_
    refine W.own i { s with heap := h1, toks := tk1 } val tg _ _ hMi hez fun h3 hs3 hP3 hk3 => ?_
    have hk03 : ∀ b o, b ∉ wr → h.get? b = some o → h3.get? b = some o := fun b o nb e => hk3 b o nb (hk1 b o nb e)
    have S3 : Sim G.hf (TT G) lay Sys' (FZ A Sys') base st' h3 := hS.turn (Mod := fun a => a ∈ wr) hS2 hk03 hpw (trk lp) hbw (W.ex _ _ hs3)
    have hval : RV (NN st'.H Sys') h3 vs[i] val := by
      have hgenN : ∀ b, NN st'.H Sys' b → NN st.H (fun a => Sys a ∨ a ∈ wr) b ∨ h2.get? b = none := fun b q => q.elim (fun q => by
        cases e : st.H b with
        | none => exact .inr (lp.new b q e)
        | some o => exact .inl (.inl (by rw [e]; exact nofun))) fun q => .inl (.inr (hS' b q))
      have hgenK : ∀ b o, ¬ NN st.H (fun a => Sys a ∨ a ∈ wr) b → h2.get? b = some o → h3.get? b = some o := fun b o nb e => hk03 b o (fun q => nb (.inr (.inr q))) ((lp.old b o (none_of fun q => nb (.inl q)) (fun i p hp hbp => nb (.inr (.inl (hbp ▸ (F.sim.sys i p hp).1)))) (fun q => nb (.inr (.inr q))) e).1 fun q => nb (.inr (.inl q.2)))
      have := hitem i vs[i] val h3 hx hP3
      cases nw with
      | false => exact RV.gen hgenN hgenK this
      | true =>
        obtain ⟨t', xs', n', ws, e1, rfl, e3, e4, e5⟩ := this
        rw [e1]
        have hft : h.get? t' = none := hfr rfl t' rfl
        exact .tup (fun q => q.elim (fun q => q (hS.fresh hft)) fun q => hS.live _ q hft) e3 e4 (RVs.gen hgenN hgenK e5)
    refine st_tg (s := { s with heap := h3, toks := tk1 }) F.cold F.eo S3 ht hbd hval fun h4 tk4 S4 tc => ?_
    have P4 : ∀ q, Ps q lay (FZ A Sys') st' { s with heap := h3, toks := tk1 } { st' with ρ := ρ' } { s with heap := h4, toks := tk4 } := fun q => Ps.ofTc (s := { s with heap := h3, toks := tk1 }) (tk := tk4) S4 tc (bindT_len hbd)
    have f3 : FrOk A Sys' h3 := by
      obtain ⟨lv, l, e, f⟩ := hfo
      refine ⟨S3.live, l, e, fun v hv => ?_⟩
      obtain ⟨g1, L, o, g2, g3, g4, g5⟩ := f v hv
      exact ⟨g1, L, o, g2, g3, hk03 L o (hSw L (F.za ⟨l, v, e, hv, g2⟩)) g4, g5⟩
    have F4 : Fx G d c A env lay Sys' base { st' with ρ := ρ' } { s with heap := h4, toks := tk4 } := ⟨⟨F.rm, F.eo, F.us, S4, F.own, F.cold⟩, FrOk.ps (s := { s with heap := h3, toks := tk1 }) f3 S3 S4 (P4 true), .inr ((F.hdo hdead).at F.sim k2 hwr hS' lp fun b o nw nl e => tc b o (fun i _ => nl i) (hk03 b o nw e))⟩
    refine hb F4 _ X _ _ hfl (fun f fl st5 s5 q5 r5 F5 p5 => ?_) fun e s' q => RzS.pass ((q.less hS1 ez frl).trans ⟨h4, tk4, rfl⟩) F hX
    obtain ⟨h5, t5, rfl⟩ := p5.sh
    have f5 := FrOk.ps F4.fr F4.sim F5.sim p5
    have P5 := (P4 _).trans p5
    have lp5 : Lp wr lay (FZ A Sys) st h2 st5 h5 := Lp.step (s := { s with heap := h3, toks := tk1 }) (lp.turn hk03) (W.ex _ _ hs3) (ez ▸ P5)
    have hsi5 : Si (i + 1) h5 := W.frame _ _ _ hs3 fun b hbf o e => by
      by_cases q : b ∈ wr
      · exact (P5.old b o (none_of fun n => trk lp b n q) (fun i p hp hbp => hpw i p hp (hbp ▸ q)) e).1 fun z => hfz b hbf z.1
      · rcases hdep b hbf q with q' | ⟨q1, q2⟩
        · refine (P5.old b o (none_of fun n => ?_) (fun i p hp hbp => q' (.inr (hbp ▸ (F.sim.sys i p hp).1))) e).1 fun z => hfz b hbf z.1
          obtain ⟨o2, ho2⟩ := hfp b hbf
          have := lp.new b n (none_of fun m => q' (.inl m))
          rw [show ({ s with heap := h2, toks := t2 } : Shared).heap = h2 from rfl, this] at ho2; cases ho2
        · rcases hds with hqt | hds
          · exact P5.qt hqt b o (fun i p hp hbp => q2 (hbp ▸ (F.sim.sys i p hp).2.2)) e fun z => hfz b hbf z.1
          · obtain ⟨ob, hob⟩ := F.sim.ent b (hds b q1)
            have h3b : h3.get? b = some ob := (S3.keep _ _ hob).1 fun z => hfz b hbf z.1
            rw [h3b] at e; cases e
            exact (F5.sim.keep _ _ hob).1 fun z => hfz b hbf z.1
    have go : forL t (fun st' K => WB (G.cx d) b st' K X) Q (vs.drop (i + 1)) st5 → ∃ m, m < n ∧ InvF G A lay Sys Sys' base st s vs wr Si h2 (forL t (fun st' K => WB (G.cx d) b st' K X) Q) m { s with heap := h5, toks := t5 } := fun q5 => ⟨vs.length - (i + 1), by omega, i + 1, st5, h5, t5, rfl, hlt, rfl, q5, hsi5, F5.sim, f5, lp5⟩
    cases r5 with
    | next => exact go q5
    | cont => exact go q5
    | brk => exact fin .next .next st5 h5 h5 t5 q5 .next F5.sim lp5 fun _ _ _ e => e
    | ret r => exact fin (.ret _) (.ret _) st5 h5 h5 t5 q5 (.ret r) F5.sim lp5 fun _ _ _ e => e
  · have hi' : i = vs.length := Nat.le_antisymm hil hge
    subst hi'
    rw [List.drop_length] at hfl
    refine W.done _ _ _ (HdOk.hq ((F.hdo hdead).at (Sys' := Sys') F.sim k2 hwr hS' lp fun b o _ _ e => e)) hyw hs_i fun h1 tk1 hk1 => wpAny_execs_nil ?_
    exact fin .next .next st' h h1 tk1 hfl .next hS (lp.turn hk1) hk1
end

end Mine
end

section
set_option autoImplicit false
set_option maxRecDepth 100000
namespace Mine
open PySem

section
variable {prog : Program} {w : World} {A : Around} {E : Value → Shared → Prop} {env : Env}
variable {nm q : Str} {C N : Addr} {bs bm : List Value} {hdct : Bool} {sn : List Str} {sub : List Value} {ab : Bool} {col : Option Bool} {dd : Option Addr} {k0 k1 k2 k3 k5 : Option Value} {newId : String}
theorem raise_made {s : Shared} {x : Sem Value} {Q : Flow → Shared → Prop} (hbase : bm.contains (.type "BaseException") = true)
    (h : wpAny (model prog w) A x (fun v s₁ => ∃ e t, v = .ref e ∧ s₁.heap.get? C = some (excClassObj nm q C N bs bm hdct sn sub ab col dd k0 k1 k2 k3 k5 newId) ∧
      s₁.heap.get? e = some { cls := .ref C, data := .fields #[.ref t, .none, .none, .none, .bool false, .none] } ∧ Hq A s₁.heap ∧ (∀ y, A.handled = some (.ref y) → y ≠ e) ∧ (A.handled = none → E (.ref e) s₁) ∧
      (∀ y, A.handled = some (.ref y) → E (.ref e) { s₁ with heap := s₁.heap.update e (Obj.mapFields (·.setIfInBounds 2 (.ref y))) })) E s) :
    wpAny (model prog w) A (raiseStmt env (some x) none) Q E s := by
  have hcB : (Value.ref C :: bm).contains (.type "BaseException") = true := by rw [List.contains_cons, hbase, Bool.or_true]
  unfold raiseStmt
  refine wpAny_bind (wpAny_mono h (fun v s₁ h₁ => ?_) fun _ _ x => x)
  obtain ⟨e, t, rfl, hC, he, q1, q2, q3, q4⟩ := h₁
  obtain ⟨hp, g, d, tk, os⟩ := s₁
  repeat (first | with_reducible refine wpAny_loadPart_at he ?_ | with_reducible refine wpAny_loadPart_at hC ?_ | (with_reducible refine wpAny_isSubtype_exc hC ?_; rw [hcB]) | wp_step)
  exact raise_new q1 q2 he rfl (Nat.lt_of_sub_eq_succ (show 6 - 2 = Nat.succ 3 from rfl)) q3 q4
end

section
variable {G : PG} {d : Nat} {c : Sc}

theorem ss_rz {k : String} {m : E} {n : Str} {np cp pos : Pos} {z : Expr} (hdead : c.dead = false) (hk : k ∈ G.xs) (hg : isGlob c n k = true) (hz : noStar z = true) (hm : SE G d c m z) : SS G d c (.rz k m) (.Raise (some (.Call (.Name n np) [z] [] cp)) none pos) := by
  intro A env lay Sys base st s F Q X K E hW hK hX
  simp only [ws_0, ws_1, ws_2, ws_3, ws_4, ws_5, ws_6, ws_7, ws_8, ws_9, ws_10, ws_11, ws_12, ws_13, ws_14, ws_15, ws_16, pk_ret, pk_next] at hW
  obtain ⟨b0, T0, kb, n0⟩ := F.sim.topH
  obtain ⟨C, bm, N, nm, q, bs, hdct, sn, sub, ab, col, dd, k0, k1, k2, k3, k5, mN, h1, h2, h3, h4, h5, h6, _⟩ := T0.ex k hk
  have kk : ∀ {s₁ : Shared}, Kp (FZ A Sys) s s₁ → HK b0 s₁.heap := fun k₁ b o e => (k₁.hw b o (kb b o e)).1 fun q => by rw [n0 b (.inr q.2)] at e; cases e
  have hbase : bm.contains (.type "BaseException") = true := h5.hasType PySem.F.excBase_ValueError.hasBase
  have est : starEach [z] env = [(false, eval z env)] := starEach_cons hz
  rw [arm_exec_Raise]
  refine wpAny_bind (wpAny_standAt (raise_made (C := C) (nm := nm) (q := q) (N := N) (bs := bs) (bm := bm) (hdct := hdct) (sn := sn) (sub := sub) (ab := ab) (col := col) (dd := dd) (k0 := k0) (k1 := k1) (k2 := k2) (k3 := k3) (k5 := k5) (newId := "ValueError.__new__") hbase (wpAny_bind (wpAny_mono (wpAny_Call_ofName (ld_glob F hg h1 ?_)) (fun v s₃ h₃ => wpAny_bind (wpAny_standAt (wpAny_pure h₃))) fun _ _ x => x))))
  unfold callWith
  rw [est]
  refine wpAny_bind (wpAny_holding (Calls.evalArgs_plain (Calls.spliced_cons ((hm F).weak _ _ _ E hW (fun v val s₁ q1 r k₁ _ => Calls.spliced_nil ?_) fun e s' q => hX e s' (q.toS F)))))
  refine wpAny_bind (wpAny_standAt ?_)
  have F₁ := F.keeps k₁
  obtain ⟨hp, g, dr, tk, os⟩ := s₁
  refine wpAny_bind (wpAny_keeperOf_exc (kk k₁ _ _ h2) ?_)
  refine wpAny_bind (wpAny_call_exc_subT (hrest := Nat.le_of_ble_eq_true (show Nat.ble 1 16777216 = true from rfl)) PySem.F.excBase_ValueError (h5.keeps (kk k₁)) (kk k₁ _ _ h2) (h3.keeps (kk k₁)) h4 fun h' e hm' => wpAny_bind (wpAny_holding (wpAny_point (wpAny_pure ?_))))
  obtain ⟨t, ht, _, _⟩ := hm'.there
  have hne : ∀ y, A.handled = some (.ref y) → y ≠ e := fun y hy eq => by
    rcases F₁.hdo hdead with q | ⟨y', o, vs, g1, g2, g3, _⟩
    · rw [q] at hy; cases hy
    · rw [g1] at hy; cases hy; rw [eq, show ({ heap := hp, gens := g, drawn := dr, toks := tk, os := os } : Shared).heap = hp from rfl, hm'.new] at g3; cases g3
  have hnw : Nw Sys s.heap e := ⟨k₁.hw.ext hm'.new, fun q => F₁.sim.live e q hm'.new⟩
  have kH : HK hp h' := hm'.keeps
  have hkw : HW (FZ A Sys) s.heap h' := k₁.hw.trans (.of kH)
  refine ⟨e, t, rfl, kH _ _ (kk k₁ _ _ h2), ht, (F₁.hdo hdead).hq.keeps kH, hne, fun hn => hX _ _ (Rz.toS (st' := st) ?_ F), fun y hy => hX _ _ (Rz.toS (st' := st) ?_ F)⟩
  · obtain ⟨h0, t0, e0, _⟩ := k₁
    refine ⟨k, C, e, .none, q1, h1, rfl, ⟨h', tk, ?_, hkw⟩, fun _ => rfl, .inl ⟨hnw, _, _, ht, rfl, rfl, rfl, rfl⟩⟩
    injection e0 with e1 e2 e3 e4 e5
    rw [e2, e3, e5]
  · obtain ⟨h0, t0, e0, _⟩ := k₁
    refine ⟨k, C, e, .ref y, q1, h1, rfl, ⟨h'.update e (Obj.mapFields (·.setIfInBounds 2 (.ref y))), tk, ?_, upd_hw hkw hnw.1⟩, (fun hn => by rw [hn] at hy; cases hy), .inl ⟨hnw, _, _, Heap.get?_update_self _ ht rfl, rfl, rfl, rfl, rfl⟩⟩
    injection e0 with e1 e2 e3 e4 e5
    rw [e2, e3, e5]

theorem exc_matches {M : Model} {A : Around} {E : Value → Shared → Prop} {h : Heap} {g : Array GenState} {dr : Drawn} {tk : Nat} {os : OsState} {e C D : Addr} {oe : Obj} {Q : Bool → Shared → Prop} {nm q : Str} {N : Addr} {bs bm : List Value} {hdct : Bool} {sn : List Str} {sub : List Value} {ab : Bool} {col : Option Bool} {dd : Option Addr} {k0 k1 k2 k3 k5 : Option Value} {newId : String}
    {nm' q' : Str} {N' : Addr} {bs' bm' : List Value} {hdct' : Bool} {sn' : List Str} {sub' : List Value} {ab' : Bool} {col' : Option Bool} {dd' : Option Addr} {k0' k1' k2' k3' k5' : Option Value} {newId' : String}
    (hC : h.get? C = some (excClassObj nm q C N bs bm hdct sn sub ab col dd k0 k1 k2 k3 k5 newId)) (hD : h.get? D = some (excClassObj nm' q' D N' bs' bm' hdct' sn' sub' ab' col' dd' k0' k1' k2' k3' k5' newId')) (he : h.get? e = some oe) (hcls : oe.cls = .ref C) (hbase : bm'.contains (.type "BaseException") = true) (hsub : (Value.ref C :: bm).contains (.ref D) = true)
    (hq : Q true ⟨h, g, dr, tk, os⟩) : wpAny M A (excMatches (.ref e) (.ref D)) Q E ⟨h, g, dr, tk, os⟩ := by
  have hdB : (Value.ref D :: bm').contains (.type "BaseException") = true := by rw [List.contains_cons, hbase, Bool.or_true]
  have f := tc_notTuple
  unfold excMatches
  repeat (first | (with_reducible refine wpAny_loadPart_at he ?_; rw [hcls]) | with_reducible refine wpAny_loadPart_at hD ?_ | (with_reducible refine wpAny_isSubtype_exc hD ?_; rw [hdB]) | (with_reducible refine wpAny_isSubtype_exc hC ?_; rw [hsub]) | wp_step)
  exact hq

/-- behind the suite of a handler the name is gone -/
theorem sim_gone {hsh : HFn} {T : Heap → Prop} {lay : Nat → Option Place} {Sys Z : Addr → Prop} {base : Heap} {st : St} {h h' : Heap} {i : Nat} {L : Addr} {x : Str} {m : Str → Option Value} {v : Option Value} (S : Sim hsh T lay Sys Z base st h) (hp : lay i = some (.loc L x)) (hm : h.Ns L m) (hn : h'.Ns L (fun y => if y = x then v else m y)) (hs : Heap.SameBut L h h') :
    Sim hsh T lay Sys Z base { st with ρ := st.ρ.set i none } h' := by
  have hN : NN st.H Sys L := .inr (S.sys i _ hp).1
  have hk : ∀ b o, ¬ NN st.H Sys b → h.get? b = some o → h'.get? b = some o := fun b o nb e => (hs.2 b (fun q => nb (q ▸ hN))).trans e
  have hoth : ∀ j q, lay j = some q → j ≠ i → (∀ u, q.has h u → q.has h' u) ∧ (q.ok h → q.ok h') := fun j q hq hji => by
    cases q with
    | loc L' y =>
      by_cases hL : L' = L
      · subst hL
        have hne : y ≠ x := fun e => hji (S.inj j i _ hq (e ▸ hp))
        refine ⟨fun u hu => ?_, fun _ => ⟨_, hn⟩⟩
        obtain ⟨m', hm', e'⟩ := hu
        have : m' = m := by
          obtain ⟨o1, es1, ep1, g1, d1, _, f1⟩ := hm'
          obtain ⟨o2, es2, ep2, g2, d2, _, f2⟩ := hm
          rw [g1] at g2; cases g2
          rw [d1] at d2; cases d2
          funext z; rw [← f1, ← f2]
        subst this
        exact ⟨_, hn, by simp [hne, e']⟩
      · exact ⟨fun u hu => let ⟨m', a, b⟩ := hu; ⟨m', a.sameBut hs hL, b⟩, fun hu => let ⟨m', a⟩ := hu; ⟨m', a.sameBut hs hL⟩⟩
    | cell c =>
      have hne : ∀ v, h.IsCell c v → c ≠ L := by
        rintro v ⟨o, e, d⟩ rfl
        obtain ⟨o2, es2, ep2, g2, d2, _⟩ := hm
        rw [e] at g2; cases g2
        rw [d] at d2; cases d2
      exact ⟨fun u hu => Heap.IsCell.sameBut hu hs (hne _ hu), fun hu => let ⟨v', a⟩ := hu; ⟨v', a.sameBut hs (hne _ a)⟩⟩
  refine ⟨S.keep.but (S.sys i _ hp).2.1 hs.2, S.zs, S.top, fun j u q hj hq => ?_, fun j q hq => ?_, S.inj, S.sys, fun a o e => ?_, S.own, fun a q e => ?_, S.ent, S.dis⟩
  · by_cases hji : j = i
    · subst hji
      have hj' : (st.ρ.set j none)[j]? = some (some u) := hj
      rw [List.getElem?_set] at hj'
      split at hj'
      · split at hj' <;> cases hj'
      · exact absurd rfl ‹_›
    · have hj' : (st.ρ.set i none)[j]? = some (some u) := hj
      rw [List.getElem?_set_ne (Ne.symm hji)] at hj'
      obtain ⟨u', a1, a2⟩ := S.vals j u q hj' hq
      exact ⟨u', (hoth j q hq hji).1 u' a1, a2.gen (fun _ q => .inl q) hk⟩
  · by_cases hji : j = i
    · subst hji; rw [hp] at hq; cases hq; exact ⟨_, hn⟩
    · exact (hoth j q hq hji).2 (S.ok j q hq)
  · have e0 : st.H a = some o := e
    refine (S.objs a o e0).gen (fun _ q => .inl q) hk fun ob e' => (hs.2 a fun q => ?_).trans e'
    rw [q, show st.H L = none from (S.sys i _ hp).2.2] at e0; cases e0
  · by_cases ha : a = L
    · subst ha
      obtain ⟨o, es, ep, e', _⟩ := hn; rw [e'] at e; cases e
    · rw [hs.2 a ha] at e; exact S.live a q e

theorem ss_try {e : E} {cl : String} {i : Option Nat} {h : Bl} {y : Expr} {u : Str} {n : Option Str} {hs : List Stmt} {tp p0 q0 pos : Pos} (he : SE G d c e y) (hc : isComp y = false) (hg : isGlob c u cl = true) (hk : cl ∈ G.xs) (h1 : some1 hs = true) (hx : chkX c i n = true)
    (hh : SB G d { c with hot := true, dead := c.hot } h hs) : SS G d c (.tryEx e cl i h) (.Try [.Expr y p0] [.ExceptHandler (some (.Name u tp)) n hs q0] [] [] pos) := by
  intro A env lay Sys base st s F Q X K E hW hK hX
  simp only [ws_0, ws_1, ws_2, ws_3, ws_4, ws_5, ws_6, ws_7, ws_8, ws_9, ws_10, ws_11, ws_12, ws_13, ws_14, ws_15, ws_16, pk_ret, pk_next] at hW
  refine wpAny_Try_except (wpAny_execs_cons (wpAny_Expr_any ((he F).weak _ _ _ _ hW (fun v val s' q r k _ => wpAny_execs_nil (wpAny_execs_nil (hK .next .next st s' q .next (F.keeps k).toFx0 (Ps.ofKp k)))) fun e' s₁ r => ?_) (by simp [interactive, F.eo.kind]) (swaps_none hc)))
  obtain ⟨k, C, x, ctx, ⟨hsb, hH⟩, h2, rfl, kp, hctx, fly⟩ := r
  obtain ⟨L, hL, hA⟩ := F.own
  obtain ⟨rfl, g2, g3⟩ := isGlob_eq hg
  have hkx : k ∈ G.xs := (F.top.exn k (by simpa using and_l hsb)).resolve_right fun q => by rw [h2] at q; cases q
  have handle : ∀ h' tk, HW (FZ A Sys) s.heap h' → FrOk A Sys h' → Fly Sys s.heap x C ctx (· = .none) h' → wpAny (model G.prog G.w) A (handleBy (.ref x) env [.ExceptHandler (some (.Name (Str.ofString cl) tp)) n hs q0]) K E { s with heap := h', toks := tk } := by
    intro h₃ tk q1 q2 q3
    have mk : ∀ h₃, HW (FZ A Sys) s.heap h₃ → FrOk A Sys h₃ → Fly Sys s.heap x C ctx (· = .none) h₃ → Fx G d { c with hot := true, dead := c.hot } (A.mark (some (.ref x))) env lay Sys base st { s with heap := h₃, toks := tk } := by
      intro h₃ q1 q2 q3
      have kp3 : Kp (FZ A Sys) s { s with heap := h₃, toks := tk } := ⟨h₃, tk, rfl, q1⟩
      have F₃ := F.keeps kp3
      refine ⟨⟨⟨⟨F.rm.depth, F.rm.units⟩, F.rm.head⟩, F.eo, F.us, F₃.sim, F.own, nofun⟩, q2, ?_⟩
      cases hb : c.hot with
      | true => exact .inl ⟨rfl, rfl⟩
      | false =>
        obtain ⟨hn, oe, vs, he, hc, hd, h2, _⟩ := q3
        rw [hctx (F.cold hb)] at h2
        exact .inr (.inr ⟨x, oe, vs, rfl, hn.2, he, hd, h2⟩)
    have F₃ := F.keeps (s' := { s with heap := h₃, toks := tk }) ⟨h₃, tk, rfl, q1⟩
    obtain ⟨D, bm', N', nm', q', bs', hdct', sn', sub', ab', col', dd', k0', k1', k2', k3', k5', mN', d1, d2, d3, d4, d5, d6, _⟩ := F₃.top.ex cl hk
    obtain ⟨C', bm, N, nm, q, bs, hdct, sn, sub, ab, col, dd, k0, k1, k2, k3, k5, mN, c1, c2, c3, c4, c5, c6, _⟩ := F₃.top.ex k hkx
    rw [h2] at c1; cases c1
    obtain ⟨hnx, oe, vs, hxe, hxc, hxd, _⟩ := id q3
    have hbase : bm'.contains (.type "BaseException") = true := d5.hasType PySem.F.excBase_ValueError.hasBase
    refine wpAny_handleBy_cons (codeAny_handlers_test (Calls.Name_function_global F.eo.kind (F.eo.gl _ g2) (Calls.loadGlobal_global (by rw [F.eo.glob]; exact F₃.top.g) d1 ?_) g3)) (by intro q; cases q)
    refine exc_matches c2 d2 hxe hxc hbase ((c6 cl hk D d1).trans hsb) ?_
    obtain ⟨b₀, body, rfl⟩ := some1_inv h1
    have hz : ∀ b, FZ (A.mark (some (.ref x))) Sys b = FZ A Sys b := fun _ => rfl
    cases n with
    | none =>
      cases i with
      | some i => exact ff hx
      | none =>
        refine codeAny_handlers_suite (set_fly (A := A.mark (some (.ref x))) (h := s.heap) (s := { s with heap := h₃, toks := tk }) q2 q1 q3 fun h₄ r1 r2 r3 => ?_)
        refine hh (mk h₄ r1 r2 r3) Q _ _ _ hH (fun f fl st' s' q r F' p => ?_) fun e s' q => ?_
        · exact hK f fl st' s' q r ⟨F.rm, F.eo, F.us, F'.sim, F.own, F.cold⟩ ((Ps.ofKp (s' := { s with heap := h₄, toks := tk }) ⟨h₄, tk, rfl, r1⟩).trans (p.weak nofun))
        · obtain ⟨_, _, _, _, _, q, _⟩ := q; exact q.elim
    | some n =>
      cases i with
      | none => exact ff hx
      | some i =>
        obtain ⟨x1, x2⟩ := (Bool.and_eq_true _ _).mp hx
        obtain ⟨v1, v2⟩ := isVar_eq x1
        have x2 : c.names.lookup n = some .local := by simpa using x2
        obtain ⟨hi, hH⟩ := hH
        have hkd := F.eo.lc _ x2
        refine codeAny_handlers_suite_as (set_fly (A := A.mark (some (.ref x))) (h := s.heap) (s := { s with heap := h₃, toks := tk }) q2 q1 q3 fun h₄ r1 r2 r3 => ?_)
        have F₄ := mk h₄ r1 r2 r3
        obtain ⟨b0, T0, kb, n0⟩ := F₄.sim.topH
        obtain ⟨hnx, oe, vs, hxe, hxc, hxd, _⟩ := id r3
        have hrv : RV (NN st.H Sys) h₄ (.exc k) (.ref x) := by
          refine .exc ?_ ?_ ⟨C, oe, vs, G.mg, hxe, hxc, hxd, F₄.top.g, h2⟩
          · rintro (q | q)
            · cases e : st.H x with
              | none => exact q e
              | some ob => exact ((F₄.sim.objs x ob e).nofields hxe hxd).elim
            · exact hnx.2 q
          · intro q
            obtain ⟨o, es, ep, e, _⟩ := T0.g
            rw [n0 _ q] at e; cases e
        refine st_var F₄.eo F₄.sim v1 hi (by rw [hkd]; decide) hrv fun h₅ t p hp hsb S' => ?_
        have tc : Tc [i] lay h₄ h₅ := fun b o nb e => (hsb.2 b (nb i (by simp) p hp)).trans e
        have ps : Ps true lay (FZ A Sys) st { s with heap := h₄, toks := tk } { st with ρ := st.ρ.set i (some (.exc k)) } { s with heap := h₅, toks := t } := Ps.ofTc S' tc (by simp)
        have F₅ := F₄.ps ⟨F₄.rm, F₄.eo, F₄.us, S', F₄.own, F₄.cold⟩ ps
        refine hh F₅ _ _ _ _ hH (fun f fl st' s' q r F' p' => ?_) fun e s' q => ?_
        · obtain ⟨pl, hpl, hc⟩ := F.eo.vars n i v1
          have hpl' : lay i = some (.loc env.locals n) := by
            rcases hc with ⟨_, rfl⟩ | ⟨hq, _⟩
            · exact hpl
            · rw [hkd] at hq; rcases hq with hq | hq <;> cases hq
          obtain ⟨m, hm⟩ := F'.sim.ok i _ hpl'
          refine wpAny_nameGoes_keeps hkd hm (by rw [F.eo.kind]; rfl) fun h₆ v6 hn6 hs6 => ?_
          have S6 := sim_gone F'.sim hpl' hm hn6 hs6
          have tc6 : Tc [i] lay s'.heap h₆ := fun b o nb e => (hs6.2 b (nb i (by simp) _ hpl')).trans e
          have ps6 : Ps false lay (FZ A Sys) st' s' { st' with ρ := st'.ρ.set i none } { s' with heap := h₆, toks := s'.toks + 1 } := Ps.ofTc S6 tc6 (by simp)
          have pa : Ps false lay (FZ A Sys) st { s with heap := h₄, toks := tk } { st with ρ := st.ρ.set i (some (.exc k)) } { s with heap := h₅, toks := t } := ps.weak nofun
          have pb : Ps false lay (FZ A Sys) { st with ρ := st.ρ.set i (some (.exc k)) } { s with heap := h₅, toks := t } st' s' := p'.weak nofun
          refine hK f fl _ _ q ?_ ⟨F.rm, F.eo, F.us, S6, F.own, F.cold⟩ ((Ps.ofKp (s' := { s with heap := h₄, toks := tk }) ⟨h₄, tk, rfl, r1⟩).trans (pa.trans (pb.trans ps6)))
          cases r with
          | next => exact .next
          | brk => exact .brk
          | cont => exact .cont
          | ret r => exact .ret (r.ps F'.sim ps6)
        · obtain ⟨_, _, _, _, _, q, _⟩ := q; exact q.elim
  have fin : ∀ h' tk, HW (FZ A Sys) s.heap h' → FrOk A Sys h' → Fly Sys s.heap x C ctx (· = rawInt L) h' → wpAny (model G.prog G.w) A (setFlight (.ref x) none) (fun _ s₃ => wpAny (model G.prog G.w) A (handleBy (.ref x) env [.ExceptHandler (some (.Name (Str.ofString cl) tp)) n hs q0]) K E s₃) E { s with heap := h', toks := tk } :=
    fun h' tk k1 k2 k3 => set_fly (s := { s with heap := h', toks := tk }) k2 k1 k3 fun h₃ q1 q2 q3 => handle h₃ tk q1 q2 q3
  have fr₁ := F.fr.kz kp.hw
  obtain ⟨h₁, t₁, rfl, kw⟩ := kp
  rcases fly with f | f
  · exact note_fly0 (s := { s with heap := h₁, toks := t₁ }) fr₁ hA hL kw f fun h'' k1 k2 k3 => fin h'' t₁ k1 k2 k3
  · exact note_fly (s := { s with heap := h₁, toks := t₁ }) fr₁ hA hL kw (f.mono fun v q => q.imp id fun ⟨M, ⟨e1, l1, a1, a2⟩, a3⟩ => by
      obtain ⟨e2, l2, b1, b2⟩ := hA
      rw [b1] at a1; cases a1
      rw [b2] at a2; cases a2; exact a3) fun h'' k1 k2 k3 => fin h'' t₁ k1 k2 k3
end
end Mine
end

section
set_option autoImplicit false
namespace Mine
open PySem

section
variable {G : PG} {d : Nat}

theorem WS_var {C : Cx} {i : Nat} {e : E} {st : St} {Q : Fl → St → Prop} {X : String → St → Prop} (h : WS C (.assign (.var i) e) st Q X) : WS C (.own i (.pure e)) st Q X := h

mutual
theorem sndS (hc : CallSnd G d) : ∀ (m : S) (c : Sc) (x : Stmt), c.fns = G.tbl.map (·.1) ∧ c.xs = G.xs ∧ c.hots = G.hots → chkS c m x = true → SS G d c m x
  | .expr e, c, x, hf, h => by
    apply onExpr_elim h; clear h; intro y p h
    simp only [Bool.and_eq_true, Bool.not_eq_true'] at h
    exact ss_expr (sndE hc e c _ hf h.1).1 h.2
  | .assign t e, c, x, hf, h => by
    apply onAssign_elim h; clear h; intro tg y p h
    · apply and5_elim h; clear h; intro h1 h2 h3 h4 h5
      cases t with
      | var i =>
        intro F Q X K E hW hK hX
        exact snd_own hc hf h1 (a := .pure e) h3 h4 F Q X K E (WS_var hW) hK hX
      | tup is => exact ff h5
  | .own i a, c, x, hf, h => by
    apply onAssign_elim h; clear h; intro tg y p h
    simp only [Bool.and_eq_true] at h
    exact snd_own hc hf h.1.1 h.1.2 h.2
  | .append e a, c, x, hf, h => by
    apply onExpr_elim h; clear h; intro y p h
    apply onCall_elim h; clear h; intro g xs ks cp h
    apply and2_elim h; clear h; intro hk h
    apply one_elim h; clear h; intro z h
    apply onAttr_elim h; clear h; intro o n ap h
    cases ks with
    | cons => exact ff hk
    | nil =>
      apply and6_elim h; clear h; intro e0_ h2 h3 h4 h5 h6
      try simp only [decide_eq_true_eq] at e0_
      try simp only [decide_eq_true_eq] at h2
      try simp only [decide_eq_true_eq] at h3
      try simp only [decide_eq_true_eq] at h4
      try simp only [decide_eq_true_eq] at h5
      try simp only [decide_eq_true_eq] at h6
      subst e0_
      exact ss_append (sndE hc e c _ hf h5).1 (sndA hc a c _ hf h6) h3 h4 h2
  | .pop t e, c, x, hf, h => by
    apply onAssign_elim h; clear h; intro tg y p h
    apply onCall_elim h; clear h; intro g xs ks cp h
    apply and2_elim h; clear h; intro hk h
    apply onAttr_elim h; clear h; intro o n ap h
    apply and2_elim hk; clear hk; intro hk hx
    cases ks with
    | cons => exact ff hk
    | nil =>
      cases xs with
      | cons => exact ff hx
      | nil =>
        apply and5_elim h; clear h; intro h1 e1_ h3 h0 h4
        try simp only [decide_eq_true_eq] at h1
        try simp only [decide_eq_true_eq] at e1_
        try simp only [decide_eq_true_eq] at h3
        try simp only [decide_eq_true_eq] at h0
        try simp only [decide_eq_true_eq] at h4
        subst e1_
        obtain ⟨y', p', rfl⟩ := isNameX_inv h0
        exact ss_pop (sndE hc e c _ hf h4).1 h1 h3
  | .setitem a b e, c, x, hf, h => ff h
  | .setkey a b e, c, x, hf, h => by
    apply onAssign_elim h; clear h; intro tg y p h
    apply onSub_elim h; clear h; intro o i p' h
    apply and4_elim h; clear h; intro h1 h2 h3 h4
    try simp only [Bool.not_eq_true'] at h1
    try simp only [Bool.not_eq_true'] at h2
    try simp only [Bool.not_eq_true'] at h3
    try simp only [Bool.not_eq_true'] at h4
    exact ss_setkey (sndE hc a c _ hf h1).1 (sndE hc b c _ hf h2).1 (sndE hc e c _ hf h3).1 h4
  | .setlast a e, c, x, hf, h => ff h
  | .setattr e n v, c, x, hf, h => by
    apply onAssign_elim h; clear h; intro tg y p h
    apply onAttr_elim h; clear h; intro o m ap h
    apply and5_elim h; clear h; intro e0_ _ h1 h2 h3
    try simp only [Bool.not_eq_true', decide_eq_true_eq] at e0_
    try simp only [Bool.not_eq_true', decide_eq_true_eq] at h1
    try simp only [Bool.not_eq_true', decide_eq_true_eq] at h2
    try simp only [Bool.not_eq_true', decide_eq_true_eq] at h3
    subst e0_
    exact ss_setattr (sndE hc e c _ hf h1).1 (sndE hc v c _ hf h2).1 h3
  | .ite t a b, c, x, hf, h => by
    apply onIfS_elim h; clear h; intro y bs os p h
    apply and3_elim h; clear h; intro h1 h2 h3
    exact ss_ite (sndE hc t c _ hf h1).2 (sndB hc a c _ hf h2) (sndB hc b c _ hf h3)
  | .while t b, c, x, hf, h => by
    apply onWhile_elim h; clear h; intro y bs p h
    simp only [Bool.and_eq_true] at h
    exact ss_while (sndE hc t c _ hf h.1).2 (sndB hc b c _ hf h.2)
  | .for t it b, c, x, hf, h => by
    apply onFor_elim h; clear h; intro tg y bs p h
    apply and6_elim h; clear h; intro h1 h2 h3 h5 h4 h6
    try simp only [Bool.not_eq_true'] at h1
    try simp only [Bool.not_eq_true'] at h2
    try simp only [Bool.not_eq_true'] at h3
    try simp only [Bool.not_eq_true'] at h5
    try simp only [Bool.not_eq_true'] at h4
    try simp only [Bool.not_eq_true'] at h6
    exact ss_for ((sndI hc it c _ hf h2).1 (ezOk_walk h5)) h1 h3 (ezOk_inv h5) h6 (sndB hc b c _ hf h4)
  | .ret e, c, x, hf, h => by
    apply onRet_elim h; clear h; intro y p h
    exact ss_ret (sndE hc e c _ hf h).1
  | .retO e, c, x, hf, h => ff h
  | .raise k e, c, x, hf, h => ff h
  | .rz k m, c, x, hf, h => by
    apply onRaise_elim h; clear h; intro y p h
    apply onCallN_elim h; clear h; intro n xs q q' h
    apply one_elim h; clear h; intro z h
    apply and5_elim h; clear h; intro h1 h2 h3 h4 h5
    try simp only [Bool.not_eq_true'] at h1
    try simp only [Bool.not_eq_true'] at h2
    try simp only [Bool.not_eq_true'] at h3
    try simp only [Bool.not_eq_true'] at h4
    try simp only [Bool.not_eq_true'] at h5
    exact ss_rz h5 (by rw [← hf.2.1]; simpa using h2) h1 h3 (sndE hc m c _ hf h4).1
  | .tryEx e k i b, c, x, hf, h => by
    apply onTry_elim h; clear h; intro bs t n hs q p h
    apply one_elim h; clear h; intro b' h
    apply and6_elim h; clear h; intro h1 h2 h3 h4 h5 h6
    apply onExpr_elim h1; clear h1; intro y p' h1
    apply onName_elim h2; clear h2; intro u p'' h2
    simp only [Bool.and_eq_true, Bool.not_eq_true'] at h1
    exact ss_try (sndE hc e c _ hf h1.1).1 h1.2 h2 (by rw [← hf.2.1]; simpa using h3) h4 h5 (sndB hc b { c with hot := true, dead := c.hot } _ hf h6)
theorem sndB (hc : CallSnd G d) : ∀ (b : Bl) (c : Sc) (xs : List Stmt), c.fns = G.tbl.map (·.1) ∧ c.xs = G.xs ∧ c.hots = G.hots → chkB c b xs = true → SB G d c b xs
  | .nil, c, xs, hf, h => by
    cases xs with
    | nil => exact sb_nil
    | cons => exact ff h
  | .cons m b, c, xs, hf, h => by
    cases xs with
    | nil => exact ff h
    | cons x r =>
      replace h := (Bool.and_eq_true _ _).mp h
      exact sb_cons (sndS hc m c _ hf h.1) (sndB hc b c _ hf h.2)
end
end

end Mine
end

section
set_option autoImplicit false
namespace Mine
open PySem

theorem cells_some : ∀ {names : List (Str × NameKind)} {n : Nat} {acc : List (Str × Addr)} {x : Str}, (names.lookup x = some .cell ∧ (names.map (·.1)).Nodup) ∨ (acc.lookup x).isSome → ((cellsFrom n names acc).lookup x).isSome
  | [], _, _, _, h => by
    rcases h with ⟨h, _⟩ | h
    · simp at h
    · exact h
  | (y, k) :: r, n, acc, x, h => by
    unfold cellsFrom
    split
    · rename_i hk
      refine cells_some ?_
      rcases h with ⟨h, hn⟩ | h
      · simp only [List.lookup_cons] at h
        cases hx : x == y with
        | true => right; simp only [List.lookup_cons, hx]; rfl
        | false => rw [hx] at h; simp only [List.map_cons, List.nodup_cons] at hn; exact .inl ⟨h, hn.2⟩
      · right
        simp only [List.lookup_cons]
        split
        · rfl
        · exact h
    · rename_i hk
      refine cells_some ?_
      rcases h with ⟨h, hn⟩ | h
      · simp only [List.lookup_cons] at h
        cases hx : x == y with
        | true => rw [hx] at h; simp only at h; cases h; simp at hk
        | false => rw [hx] at h; simp only [List.map_cons, List.nodup_cons] at hn; exact .inl ⟨h, hn.2⟩
      · exact .inr h

theorem bindL_get {k : Str → Option NameKind} : ∀ {names : List Str} {vals : List Value} {m : Str → Option Value} {x : Str}, names.Nodup → k x = some .local → bindL k (names.zip vals) m x = (((names.zip vals).lookup x).or (m x))
  | [], _, _, _, _, _ => by simp [bindL]
  | _ :: _, [], _, _, _, _ => by simp [bindL]
  | n :: ns, v :: vs, m, x, hn, hk => by
    rw [List.nodup_cons] at hn
    simp only [List.zip_cons_cons, bindL]
    rw [bindL_get hn.2 hk]
    simp only [List.lookup_cons]
    cases hx : x == n with
    | true =>
      have : x = n := by simpa using hx
      subst this
      have hnone : (ns.zip vs).lookup x = none := by
        cases e : (ns.zip vs).lookup x with
        | none => rfl
        | some w => exact absurd (List.of_mem_zip (mem_lookup e)).1 hn.1
      simp [hnone, hk]
    | false =>
      have hne : x ≠ n := by simpa using hx
      simp only
      congr 1
      split
      · simp [hne]
      · rfl
theorem bindC_get {k : Str → Option NameKind} : ∀ {names : List Str} {vals : List Value} {m : Str → Option Value} {x : Str}, names.Nodup → k x ≠ some .local → bindC k (names.zip vals) m x = (((names.zip vals).lookup x).or (m x))
  | [], _, _, _, _, _ => by simp [bindC]
  | _ :: _, [], _, _, _, _ => by simp [bindC]
  | n :: ns, v :: vs, m, x, hn, hk => by
    rw [List.nodup_cons] at hn
    simp only [List.zip_cons_cons, bindC]
    rw [bindC_get hn.2 hk]
    simp only [List.lookup_cons]
    cases hx : x == n with
    | true =>
      have : x = n := by simpa using hx
      subst this
      have hnone : (ns.zip vs).lookup x = none := by
        cases e : (ns.zip vs).lookup x with
        | none => rfl
        | some w => exact absurd (List.of_mem_zip (mem_lookup e)).1 hn.1
      simp [hnone, hk]
    | false =>
      have hne : x ≠ n := by simpa using hx
      simp only
      congr 1
      split
      · rfl
      · simp [hne]

theorem lookup_zip_at {β : Type} : ∀ {names : List Str} {vals : List β} {i : Nat} {x : Str} {v : β}, names.Nodup → names[i]? = some x → vals[i]? = some v → (names.zip vals).lookup x = some v
  | [], _, _, _, _, _, h, _ => by simp at h
  | _ :: _, [], _, _, _, _, _, h => by simp at h
  | n :: ns, w :: ws, 0, x, v, _, h1, h2 => by simp at h1 h2; subst h1 h2; simp
  | n :: ns, w :: ws, i + 1, x, v, hn, h1, h2 => by
    rw [List.nodup_cons] at hn
    simp only [List.getElem?_cons_succ] at h1 h2
    have hne : x ≠ n := fun e => hn.1 (e ▸ List.mem_of_getElem? h1)
    simp only [List.zip_cons_cons, List.lookup_cons]
    rw [show (x == n) = false from by simpa using hne]
    exact lookup_zip_at hn.2 h1 h2
theorem lookup_range {xs : List Str} {x : Str} {i : Nat} (h : (xs.zip (List.range xs.length)).lookup x = some i) : xs[i]? = some x := by
  rw [List.range_eq_range'] at h
  obtain ⟨j, h1, h2⟩ := lookup_zip h
  rw [h2, Nat.zero_add]; exact h1

structure FnOk (fns xs : List String) (hot : Bool) (hots : List String) (fn : Fn) (dr : DefRec) : Prop where
  pos : dr.params.posonlyargs = []
  kwo : dr.params.kwonlyargs = []
  va : dr.params.vararg = none
  kw : dr.params.kwarg = none
  args : dr.params.args.map (·.arg) = (fn.vars.map Str.ofString).take fn.np
  le : fn.np ≤ fn.vars.length
  nd : (fn.vars.map Str.ofString).Nodup
  st : ∀ x ∈ fn.vars.map Str.ofString, (dr.scope.names.lookup x = some .local ∨ dr.scope.names.lookup x = some .cell) ∧ (x == ("__classdict__" : Str)) = false
  kind : dr.scope.kind = .function
  gen : dr.scope.isGenerator = false
  cor : dr.scope.isCoroutine = false
  names : (dr.scope.names.map (·.1)).Nodup
  nv : fn.vars.length ≤ fn.nv
  body : chkB (fnSc fns xs hot hots fn dr) fn.body dr.body = true
theorem fnOk {fns xs : List String} {hot : Bool} {hots : List String} {fn : Fn} {dr : DefRec} (h : chkFn fns xs hot hots fn dr = true) : FnOk fns xs hot hots fn dr := by
  unfold chkFn plainParams at h
  simp only [Bool.and_eq_true, decide_eq_true_eq, List.all_eq_true, Bool.not_eq_true'] at h
  obtain ⟨⟨⟨⟨⟨⟨⟨⟨⟨⟨⟨⟨h1, h2⟩, h3⟩, h4⟩, h5⟩, h6⟩, h7⟩, h8⟩, h9⟩, h10⟩, h11⟩, h12⟩, h13⟩ := h
  obtain ⟨⟨⟨⟨⟨a1, a2⟩, a3⟩, a4⟩, a5⟩, a6⟩ := h1
  refine ⟨by simpa using a1, by simpa using a3, by simpa using a2, by simpa using a4, h2, h3, h5, fun x hx => ?_, h7, h8, h9, h11, h12, h13⟩
  obtain ⟨q1, q2⟩ := h6 x hx
  simp only [canStore, Bool.or_eq_true, decide_eq_true_eq] at q1
  exact ⟨q1, q2⟩

/-- where a function's names stand -/
noncomputable def layF (names : List (Str × NameKind)) (cells : List (Str × Addr)) (L : Addr) (xs : List Str) : Nat → Option Place := fun i => match xs[i]? with
  | none => none
  | some x => if names.lookup x = some .local then some (.loc L x) else (cells.lookup x).map .cell

theorem RmC.deeper {d : Nat} {A : Around} {env : Env} (R : RmC (d + 1) A) (h1 : env.scope.isGenerator = false) (h2 : env.scope.isCoroutine = false) (h3 : env.builtins = builtinsNs) (h4 : env.globals = mainGlobals) : RmF d (A.deeper env) := by
  obtain ⟨l, hf⟩ := R.fr
  refine ⟨⟨by have := R.depth; show A.depth + 1 + d + 150 < recursionLimit; omega, by have := R.units; show A.units + 3 + 20 * d + 200 < cLine; omega⟩, env, l, ?_, h1, h2, h3, h4⟩
  show A.frames.map (env :: ·) = _
  rw [hf]; rfl

theorem call_step {G : PG} {d : Nat} (hc : CallSnd G d) : CallSnd G (d + 1) := by
  intro A H Sys s f fa vs vals R T hO hlive hdis hfr hhd hcold hmg hrv Q X K E hW hK hX
  obtain ⟨b0, T0, k0, n0⟩ := T
  have T := T0.keeps k0
  have ho := hO
  simp only [PG.cx, cxN, runN] at hW
  split at hW
  · exact hW.elim
  · rename_i fn hfn
    obtain ⟨hnp, hnv, hW⟩ := hW
    obtain ⟨dr, a, o, pm, code, doc, h1, h2, h3, h4, h5⟩ := T.fn f fn hfn
    rw [hmg] at h1; cases h1
    have O := fnOk h5
    have hlen := hrv.length
    let xs := fn.vars.map Str.ofString
    have hxl : xs.length = fn.vars.length := by simp [xs]
    have htake : (xs.take fn.np).length = vals.length := by rw [List.length_take, hxl]; have := O.le; omega
    have hndt : (xs.take fn.np).Nodup := List.Nodup.sublist (List.take_sublist _ _) O.nd
    have hkind : ∀ x ∈ (xs.take fn.np).zip vals, dr.scope.names.lookup x.1 = some .local ∨ (dr.scope.names.lookup x.1 = some .cell ∧ ((cellsFrom (s.heap.objs.size + 1) dr.scope.names []).lookup x.1).isSome = true) := by
      intro x hx
      have hm : x.1 ∈ xs := List.mem_of_mem_take (List.of_mem_zip hx).1
      rcases (O.st x.1 hm).1 with q | q
      · exact .inl q
      · exact .inr ⟨q, cells_some (.inl ⟨q, O.names⟩)⟩
    refine wpAny_call (codeAny_call_cells (fd := Calls.docDef dr.name dr.params dr.body dr.scope pm code doc) (binds := (xs.take fn.np).zip vals) (by have := R.depth; omega) h2 h3 T.nolimit h4 rfl (bind_plain O.pos O.args O.kwo O.va O.kw rfl htake hndt) rfl hkind (fun s₁ x => ?_) O.cor O.gen O.kind)
    generalize hEnv : callEnvC (Calls.docDef dr.name dr.params dr.body dr.scope pm code doc) s.heap.objs.size fa = env at x ⊢
    have e1 : env.locals = s.heap.objs.size := by rw [← hEnv]; rfl
    have e2 : env.cells = cellsFrom (s.heap.objs.size + 1) dr.scope.names [] := by rw [← hEnv]; rfl
    have e3 : env.scope = dr.scope := by rw [← hEnv]; rfl
    have e4 : env.globals = mainGlobals := by rw [← hEnv]; rfl
    have e5 : env.builtins = builtinsNs := by rw [← hEnv]; rfl
    have e6 : ∀ y, env.kindOf y = dr.scope.names.lookup y := fun y => by unfold Env.kindOf; rw [e3]
    -- the frame's places
    let lay : Nat → Option Place := layF dr.scope.names env.cells env.locals xs
    let New : Addr → Prop := fun b => b = env.locals ∨ ∃ y, env.cells.lookup y = some b
    let Sys' : Addr → Prop := fun a => Sys a ∨ New a
    have hLf : s.heap.get? env.locals = none := by rw [e1]; exact fresh_size _
    have hcf : ∀ y b, env.cells.lookup y = some b → s.heap.get? b = none := fun y b q => by
      have h' : env.locals < b := x.above y b (mem_of_lookup q)
      rw [e1] at h'
      exact Heap.get?_none_of_le (Nat.le_of_lt h')
    have hNf : ∀ b, New b → s.heap.get? b = none := by
      rintro b (rfl | ⟨y, q⟩)
      · exact hLf
      · exact hcf y b q
    have hNl : ∀ b, New b → s₁.heap.get? b ≠ none := by
      rintro b (rfl | ⟨y, q⟩) e
      · obtain ⟨o, es, ep, ho', _⟩ := x.toInCall.ns
        rw [ho'] at e; cases e
      · obtain ⟨o, ho', _⟩ := x.cell y b q
        rw [ho'] at e; cases e
    have hk : HK s.heap s₁.heap := x.toInCall.keep
    have hHf : ∀ b, s.heap.get? b = none → H b = none := fun b e => by
      cases q : H b with
      | none => rfl
      | some o =>
        obtain ⟨ob, e'⟩ := (ho b o q).exists
        rw [e] at e'; cases e'
    have hlay : ∀ i p, lay i = some p → ∃ y, xs[i]? = some y ∧ ((dr.scope.names.lookup y = some .local ∧ p = .loc env.locals y) ∨ (dr.scope.names.lookup y = some .cell ∧ ∃ b, env.cells.lookup y = some b ∧ p = .cell b)) := by
      intro i p hp
      simp only [lay, layF] at hp
      split at hp
      · cases hp
      · rename_i y hy
        refine ⟨y, hy, ?_⟩
        split at hp
        · rename_i hl; cases hp; exact .inl ⟨hl, rfl⟩
        · rename_i hl
          simp only [Option.map_eq_some_iff] at hp
          obtain ⟨b, hb, rfl⟩ := hp
          exact .inr ⟨((O.st y (List.mem_of_getElem? hy)).1).resolve_left hl, b, hb, rfl⟩
    have hplN : ∀ i p, lay i = some p → New p.addr := by
      intro i p hp
      obtain ⟨y, _, ⟨_, rfl⟩ | ⟨_, b, hb, rfl⟩⟩ := hlay i p hp
      · exact .inl rfl
      · exact .inr ⟨y, hb⟩
    have hN : ∀ b, NN H Sys' b → NN H Sys b ∨ s.heap.get? b = none := by
      rintro b (q | q | q)
      · exact .inl (.inl q)
      · exact .inl (.inr q)
      · exact .inr (hNf b q)
    have hrv' : RVs (NN H Sys') s₁.heap vs vals := hrv.gen hN fun b o _ e => hk b o e
    have S : Sim G.hf (TT G) lay Sys' (FZ (A.deeper env) Sys') s.heap ⟨vs.map some ++ List.replicate (fn.nv - fn.np) none, H, H⟩ s₁.heap := by
      refine ⟨.of hk, fun _ q => q.2, ⟨b0, T0, k0, fun a q => q.elim (fun q => q.elim (fun q => n0 a (.inr q)) fun q => (HW.of (Z := Sys) k0).ext (hNf a q)) fun q => n0 a (.inl q)⟩, fun i v p hv hp => ?_, fun i p hp => ?_, fun i j p hi hj => ?_, fun i p hp => ⟨.inr (hplN i p hp), hNf _ (hplN i p hp), hHf _ (hNf _ (hplN i p hp))⟩, fun a o e => ?_, fun a h1 h2 => absurd h2 h1, fun a q e => ?_, fun a q => ?_, fun a q => q.elim (hdis a) fun q => hHf _ (hNf a q)⟩
      · have hv' : vs[i]? = some v := by
          have hv : (vs.map some ++ List.replicate (fn.nv - fn.np) none)[i]? = some (some v) := hv
          rw [List.getElem?_append] at hv
          split at hv
          · simpa using hv
          · rw [List.getElem?_replicate] at hv
            split at hv <;> simp at hv
        obtain ⟨val, hval, r⟩ := hrv'.get i hv'
        refine ⟨val, ?_, r⟩
        have hi : i < fn.np := by
          obtain ⟨q, _⟩ := List.getElem?_eq_some_iff.mp hv'
          omega
        obtain ⟨y, hy, hc'⟩ := hlay i p hp
        have hyt : (xs.take fn.np)[i]? = some y := by rw [List.getElem?_take, if_pos hi]; exact hy
        have hlk := lookup_zip_at hndt hyt hval
        rcases hc' with ⟨hl, rfl⟩ | ⟨hl, b, hb, rfl⟩
        · refine ⟨_, x.toInCall.ns, ?_⟩
          rw [bindL_get hndt (by rw [e6]; exact hl), hlk]; rfl
        · have := x.cell y b hb
          rw [bindC_get hndt (by rw [e6, hl]; simp), hlk] at this
          exact this
      · obtain ⟨y, hy, ⟨_, rfl⟩ | ⟨_, b, hb, rfl⟩⟩ := hlay i p hp
        · exact ⟨_, x.toInCall.ns⟩
        · exact ⟨_, x.cell y b hb⟩
      · obtain ⟨y, hy, hc1⟩ := hlay i p hi
        obtain ⟨z, hz, hc2⟩ := hlay j p hj
        have hyz : y = z := by
          rcases hc1 with ⟨_, rfl⟩ | ⟨_, b, hb, rfl⟩
          · rcases hc2 with ⟨_, e⟩ | ⟨_, b, hb, e⟩
            · cases e; rfl
            · cases e
          · rcases hc2 with ⟨_, e⟩ | ⟨_, b', hb', e⟩
            · cases e
            · cases e
              exact name_of_addr x.apart (mem_of_lookup hb) (mem_of_lookup hb')
        subst hyz
        obtain ⟨l1, q1⟩ := List.getElem?_eq_some_iff.mp hy
        obtain ⟨l2, q2⟩ := List.getElem?_eq_some_iff.mp hz
        exact nodup_inj O.nd l1 l2 (q1.trans q2.symm)
      · exact (ho a o e).gen hN (fun b o _ e => hk b o e) fun o e => hk a o e
      · rcases q with q | q
        · cases e' : s.heap.get? a with
          | none => exact hlive a q e'
          | some ob => rw [hk _ _ e'] at e; cases e
        · exact hNl a q e
      · cases e' : H a with
        | none => exact absurd e' q
        | some ob => exact (ho a ob e').exists
    have EO : EnvOk env (fnSc (G.tbl.map (·.1)) G.xs (G.hots.contains f) G.hots fn dr).names (fnSc (G.tbl.map (·.1)) G.xs (G.hots.contains f) G.hots fn dr).σ lay := by
      refine ⟨by rw [e3]; exact O.kind, e4, e5, fun y q => by rw [e6]; exact q, fun y q => by rw [e6]; exact q, fun y q => by rw [e6]; exact q, fun y q => .inr (by rw [e6]; exact q), fun y i q => ?_⟩
      have q' : xs[i]? = some y := by
        refine lookup_range ?_
        rw [hxl]; exact q
      obtain ⟨hst, hcd⟩ := O.st y (List.mem_of_getElem? q')
      rcases hst with hl | hl
      · refine ⟨.loc env.locals y, ?_, .inl ⟨by rw [e6]; exact hl, rfl⟩⟩
        simp only [lay, layF, q', hl, if_true]
      · have hcs : (env.cells.lookup y).isSome := by rw [e2]; exact cells_some (.inl ⟨hl, O.names⟩)
        obtain ⟨b, hb⟩ := Option.isSome_iff_exists.mp hcs
        refine ⟨.cell b, ?_, .inr ⟨.inl (by rw [e6]; exact hl), hcd, b, hb, rfl⟩⟩
        simp only [lay, layF, q', hl, hb]
        rfl
    have eF : env.frame = some env.locals := by rw [← hEnv]; rfl
    obtain ⟨lv, l₀, hl₀, hfs⟩ := hfr
    have hA' : (A.deeper env).frames = some (env :: l₀) := by show A.frames.map (env :: ·) = _; rw [hl₀]; rfl
    have ez : ∀ b, FZ (A.deeper env) Sys' b → FZ A Sys b ∨ s.heap.get? b = none := by
      rintro b ⟨⟨l, e, h1, h2, h3⟩, _⟩
      rw [hA'] at h1; cases h1
      rcases List.mem_cons.mp h2 with rfl | h2
      · rw [eF] at h3; cases h3; exact .inr hLf
      · obtain ⟨_, L, _, g1, g2, _⟩ := hfs e h2
        rw [h3] at g1; cases g1
        exact .inl ⟨⟨l₀, e, hl₀, h2, h3⟩, g2⟩
    have hfr' : FrOk (A.deeper env) Sys' s₁.heap := by
      refine ⟨S.live, _, hA', fun e he => ?_⟩
      rcases List.mem_cons.mp he with q | he
      · rw [q]
        obtain ⟨o, es, ep, ho', d', _⟩ := x.toInCall.ns
        exact ⟨by rw [e3, O.kind]; decide, env.locals, o, eF, .inr (.inl rfl), ho', fun vs q => by rw [d'] at q; cases q⟩
      · obtain ⟨g1, L, o, g2, g3, g4, g5⟩ := hfs e he
        exact ⟨g1, L, o, g2, .inl g3, hk _ _ g4, g5⟩
    have Fr : Fx G d (fnSc (G.tbl.map (·.1)) G.xs (G.hots.contains f) G.hots fn dr) (A.deeper env) env lay Sys' s.heap ⟨vs.map some ++ List.replicate (fn.nv - fn.np) none, H, H⟩ s₁ := by
      refine ⟨⟨R.deeper (by rw [e3]; exact O.gen) (by rw [e3]; exact O.cor) e5 e4, EO, fun i p hp => ?_, S, ⟨_, eF, env, l₀, hA', eF⟩, fun e => hcold e⟩, hfr', .inr <| hhd.imp id fun ⟨y, o, vs, q1, q2, q3, q4⟩ => ⟨y, o, vs, q1, (fun q => q.elim q2 fun q => by rw [hNf y q] at q3; cases q3), hk _ _ q3, q4⟩⟩
      obtain ⟨y, hy, _⟩ := hlay i p hp
      obtain ⟨l, _⟩ := List.getElem?_eq_some_iff.mp hy
      show i < fn.vars.length
      omega
    have raised : ∀ e s', RzS G.mg (A.deeper env) Sys' s.heap s₁ (fun x _ => X x) e s' → wpAny (model G.prog G.w) (A.deeper env) (leaving env e) (fun _ s'' => E e s'') (fun e' s'' => E e' s'') s' := by
      rintro e s' ⟨c, C, x', ctx, st', h1, h2, rfl, hsh, h5, h6, h7, h8⟩
      have hsh' : ∃ h' tk, s' = { s with heap := h', toks := tk } := by
        obtain ⟨h1, t1, e⟩ := hsh
        obtain ⟨h2, t2, e'⟩ := x.toInCall.same
        exact ⟨h1, t1, by rw [e, e']⟩
      obtain ⟨h', tk, rfl⟩ := hsh'
      have fin : ∀ h'', HW (FZ (A.deeper env) Sys') s.heap h'' → FrOk (A.deeper env) Sys' h'' → Fly Sys' s.heap x' C ctx (· = rawInt env.locals) h'' → wpAny (model G.prog G.w) (A.deeper env) (setFlight (.ref x') none) (fun _ s'' => E (.ref x') s'') (fun e' s'' => E e' s'') { s with heap := h'', toks := tk } := fun h'' q1 q2 q3 =>
        set_fly (s := { s with heap := h'', toks := tk }) q2 q1 q3 fun h₃ r1 r2 r3 => hX _ _ ⟨c, C, x', ctx, h1, h2, rfl, Kp.ofW (r1.less ez), h7, .inr ((r3.mono fun v e => .inl e).before fun a n => ⟨n.1, fun q => n.2 (.inl q)⟩)⟩
      unfold leaving
      refine wpAny_bind ?_
      rcases h8 with f | f
      · exact note_fly0 (s := { s with heap := h', toks := tk }) h5 ⟨env, l₀, hA', eF⟩ eF h6 f fun h'' q1 q2 q3 => fin h'' q1 q2 q3
      · exact note_fly (s := { s with heap := h', toks := tk }) h5 ⟨env, l₀, hA', eF⟩ eF h6 (f.mono fun v q => q.imp id fun ⟨M, ⟨e1, l1, a1, a2⟩, a3⟩ => by
          rw [hA'] at a1; cases a1
          rw [eF] at a2; cases a2; exact a3) fun h'' q1 q2 q3 => fin h'' q1 q2 q3
    refine sndB hc fn.body (fnSc (G.tbl.map (·.1)) G.xs (G.hots.contains f) G.hots fn dr) dr.body ⟨rfl, rfl, rfl⟩ O.body Fr _ _ _ _ hW (fun fl f' st' s' q r F' p => ?_) raised
    have hsh : ∃ h' tk, s' = { s with heap := h', toks := tk } := by
      obtain ⟨h1, t1, e⟩ := p.sh
      obtain ⟨h2, t2, e'⟩ := x.toInCall.same
      exact ⟨h1, t1, by rw [e, e']⟩
    have kp : Kp (FZ A Sys) s s' := by
      obtain ⟨h', tk, e⟩ := hsh
      have := F'.sim.keep
      subst e
      exact Kp.ofW (this.less ez)
    have hBst : st'.B = H := p.B
    have g : Given G.hf H st'.H Sys Sys' s s' := ⟨F'.sim.objs, fun a q => .inl q, fun a q => p.stay a q, fun a q q' => F'.sim.own a q (by rw [hBst]; exact q'), F'.sim.dis⟩
    cases r with
    | next => exact hK .none .none st'.H Sys' s' q g .none kp
    | brk => exact q.elim
    | cont => exact q.elim
    | ret r => exact hK _ _ st'.H Sys' s' q g r kp

theorem call_all {G : PG} : ∀ d, CallSnd G d
  | 0 => by
    intro R T ho hlive hdis hfr hhd hcold hmg hrv Q X K E hW
    exact hW.elim
  | d + 1 => call_step (call_all d)

end Mine
end

section
set_option autoImplicit false
namespace Mine
open PySem

noncomputable def strOkB (u : Str) : Bool := decide (u.length ≤ sizeLine) && u.cps.all (· < 0x110000)

noncomputable def freeN (p : Program) (loose : List Str) (n : String) : Bool := !(startupNames.contains (Str.ofString n)) && !(loose.contains (Str.ofString n)) && !(((PyProof.Rows.recsOf p).map (·.name)).contains (Str.ofString n)) &&
  !(((PyProof.Rows.litsOf p).map (·.1)).contains (Str.ofString n)) && !(((PyProof.Rows.clssOf p loose).map (·.name)).contains (Str.ofString n))
noncomputable def freeB (p : Program) (loose : List Str) : Bool := bnames.all (freeN p loose)
theorem free_of {p : Program} {loose : List Str} {mean : ExcName → Option Value} {mg mb : Str → Option Value} {h : Heap} (T : PyProof.Rows.Top p loose mean mg mb h) {n : String} (this : freeN p loose n = true) : mg (Str.ofString n) = none := by
  simp only [freeN, Bool.and_eq_true, Bool.not_eq_true', List.contains_eq_mem, decide_eq_false_iff_not] at this
  obtain ⟨⟨⟨⟨h1, h2⟩, h3⟩, h4⟩, h5⟩ := this
  exact T.free _ h1 h2 h3 h4 h5
noncomputable def constB (p : Program) (gtab : List (String × V)) : Bool := gtab.all fun q => match q.2, PyProof.Rows.valOf p (Str.ofString q.1) with
  | .int i, some (.int j) => i == j
  | .str u, some (.str v) => u == v && strOkB u
  | _, _ => false
noncomputable def recAt (p : Program) (f : String) : Option DefRec := (PyProof.Rows.recsOf p).find? (·.name == Str.ofString f)
noncomputable def fnB (p : Program) (fns xs hots : List String) (q : String × Fn) : Bool := match recAt p q.1 with
  | some dr => chkFn fns xs (hots.contains q.1) hots q.2 dr
  | none => false

theorem boot_ok : ∀ n ∈ bnames, Str.ofString n ≠ "__name__" ∧ bootBuiltins (Str.ofString n) = some (bval n) := by
  intro n hn
  simp only [bnames, List.mem_cons, List.not_mem_nil, or_false] at hn
  rcases hn with rfl | rfl | rfl | rfl | rfl | rfl | rfl | rfl | rfl | rfl | rfl | rfl | rfl | rfl | rfl <;> exact ⟨by decide, by kernel_rfl⟩

noncomputable def clsB (c : ClsRec) (n : Nat) (fs : List (String × Ini)) : Bool := fs.all (fun f => c.quiet.contains (Str.ofString f.1)) && c.meths.any fun m => decide (m.name = Str.ofString "__init__") && chkIni n fs m.params m.body m.scope
theorem crow_of {h : Heap} {c : ClsRec} {C N : Addr} {mN : Str → Option Value} {n : Nat} {fs : List (String × Ini)} (P : PyProof.Rows.PlainAt h c C N mN) (hb : clsB c n fs = true) (ht : ∀ f ∈ fs, typeLookup (.type "object") (Str.ofString f.1) = pure none) : CRow h C N mN n fs := by
  obtain ⟨h1, h2⟩ := (Bool.and_eq_true _ _).mp hb
  obtain ⟨m, hm, h2⟩ := List.any_eq_true.mp h2
  obtain ⟨h2, h3⟩ := (Bool.and_eq_true _ _).mp h2
  have hn := of_decide_eq_true h2
  obtain ⟨f, o, pm, cd, doc, g1, g2, g3, g4, g5⟩ := P.meths m hm
  rw [hn] at g1 g4 g5
  exact ⟨P.cls, P.quiet _ (List.mem_append_left _ (.tail _ (.head _))), P.quiet _ (List.mem_append_left _ (.head _)), fun f hf => ⟨P.quiet _ (List.contains_iff_mem.mp (List.all_eq_true.mp h1 f hf)), ht f hf⟩, f, o, pm, cd, doc, _, _, _, _, g1, g2, g3, g4, g5, h3⟩
theorem cls_of {p : Program} {loose : List Str} {mg : Str → Option Value} {h : Heap} {x : String} {n : Nat} {fs : List (String × Ini)} (TE : PyProof.Rows.TopE p loose mg h) (hb : ((PyProof.Rows.plainsOf p loose).any fun c => decide (c.name = Str.ofString x) && clsB c.withCmp n fs) = true) (ht : ∀ f ∈ fs, typeLookup (.type "object") (Str.ofString f.1) = pure none) :
    ∃ C, mg (Str.ofString x) = some (.ref C) ∧ ∃ N0 mN, CRow h C N0 mN n fs := by
  obtain ⟨c, hc, hb⟩ := List.any_eq_true.mp hb
  obtain ⟨h1, h2⟩ := (Bool.and_eq_true _ _).mp hb
  obtain ⟨C, N, mN, e, P⟩ := TE c hc
  rw [of_decide_eq_true h1] at e
  exact ⟨C, e, N, mN, crow_of P h2 ht⟩
theorem tt_of {prog : Program} {w : World} {p : Program} {loose : List Str} {mean : ExcName → Option Value} {mg mb : Str → Option Value} {h : Heap} {tbl : Tbl} {gtab : List (String × V)} {ctab : Clss} {xs hots : List String} (T : PyProof.Rows.Top p loose mean mg mb h)
    (htree : prog.given.tree = none) (himp : PyProof.Rows.importsNone p = true) (hfree : freeB p loose = true) (hconst : constB p gtab = true) (hfn : ∀ q ∈ tbl, fnB p (tbl.map (·.1)) xs hots q = true)
    (hcl : ∀ r ∈ ctab, mg (Str.ofString r.1) = some (.ref r.2.1) ∧ ∃ N0 mN, CRow h r.2.1 N0 mN r.2.2.1 r.2.2.2)
    (hex : ∀ c ∈ xs, XRow mg h xs c) (hexn : (allX.all fun c => xs.contains c || freeN p loose c) = true)
    : TT ⟨prog, w, mg, mb, tbl, gtab, ctab, xs, hots⟩ h := by
  refine ⟨⟨T.g, T.b, T.nolimit, T.seer himp, htree⟩, fun n hn => ⟨?_, ?_⟩, fun f fn hf => ?_, fun x v hx => ?_
    , hcl
    , hex, fun c hc => ((Bool.or_eq_true _ _).mp (List.all_eq_true.mp hexn c hc)).imp (fun q => List.contains_iff_mem.mp q) (free_of T)
    ⟩
  · exact free_of T (List.all_eq_true.mp hfree n hn)
  · exact (T.builtins _ (boot_ok n hn).1).trans (boot_ok n hn).2
  · have hm : (f, fn) ∈ tbl := by
      clear hfn
      induction tbl with
      | nil => simp at hf
      | cons q r ih =>
        obtain ⟨g, fg⟩ := q
        simp only [List.lookup_cons] at hf
        cases e : f == g with
        | true =>
          rw [e] at hf; simp only at hf; cases hf
          have : f = g := by simpa using e
          subst this; simp
        | false => rw [e] at hf; simp only at hf; exact List.mem_cons_of_mem _ (ih hf)
    have hq := hfn _ hm
    unfold fnB at hq
    simp only at hq
    split at hq
    · rename_i dr hdr
      have hin := List.mem_of_find?_eq_some hdr
      have hnm : dr.name = Str.ofString f := by simpa using List.find?_some hdr
      obtain ⟨a, o, pm, code, doc, h1, h2, h3, h4⟩ := T.fn dr hin
      exact ⟨dr, a, o, pm, code, doc, hnm ▸ h1, h2, h3, h4, hq⟩
    · cases hq
  · have hm : (x, v) ∈ gtab := by
      clear hconst
      induction gtab with
      | nil => simp at hx
      | cons q r ih =>
        obtain ⟨g, fg⟩ := q
        simp only [List.lookup_cons] at hx
        cases e : x == g with
        | true =>
          rw [e] at hx; simp only at hx; cases hx
          have : x = g := by simpa using e
          subst this; simp
        | false => rw [e] at hx; simp only at hx; exact List.mem_cons_of_mem _ (ih hx)
    have hq := List.all_eq_true.mp hconst _ hm
    simp only at hq
    split at hq
    · rename_i i j hv
      have e : i = j := by simpa using hq
      subst e
      obtain ⟨val, h1, h2⟩ := T.const _ _ hv
      have := h2 h
      cases this
      exact .inl ⟨_, _, rfl, h1⟩
    · rename_i u u' hv
      simp only [Bool.and_eq_true] at hq
      have e : u = u' := by simpa using hq.1
      subst e
      obtain ⟨val, h1, h2⟩ := T.const _ _ hv
      have := h2 h
      cases this
      refine .inr ⟨_, _, rfl, ?_, h1⟩
      have hs := hq.2
      unfold strOkB at hs
      simp only [Bool.and_eq_true, decide_eq_true_eq] at hs
      refine ⟨hs.1, fun c hc => ?_⟩
      have := hs.2
      rw [← Array.all_toList, List.all_eq_true] at this
      simpa using this c hc
    · cases hq

theorem ints_rv {N : Addr → Prop} {h : Heap} : ∀ {vs : List Value} {ns : List Int}, PyProof.Rows.IntsAre vs ns → RVs N h (ns.map V.int) vs
  | _, _, .nil => .nil
  | _, _, .cons n t r => .cons (.int n t) (ints_rv r)

/-- the law's call, from outside -/
theorem law_top {G : PG} {d : Nat} {s : Shared} {fa a : Addr} {vs : List Value} {ns : List Int} {n : Nat} {f : String} {K E : Value → Shared → Prop} (T : TT G s.heap) (hmg : G.mg (Str.ofString f) = some (.ref fa)) (hl : IsL s.heap a vs.toArray n) (hi : PyProof.Rows.IntsAre vs ns) (hz : ns.length ≤ 63)
    (hd : d ≤ 300) (hW : (G.cx d).call f [.lst (ns.map V.int)] (fun _ => none) (fun v => v = .bool true) (fun _ => False)) (hK : ∀ s', (∃ h' tk, s' = { s with heap := h', toks := tk } ∧ HK s.heap h') → K (.bool true) s') : wpAny (model G.prog G.w) callerA (call (.ref fa) [.ref a]) K E s := by
  have hlen : vs.length = ns.length := by
    have := (ints_rv (N := fun _ => False) (h := s.heap) hi).length
    simpa using this.symm
  have hd0 : HdOk callerA (fun _ => False) s.heap := .inl rfl
  refine call_all d (A := callerA) (H := fun _ => none) (Sys := fun _ => False) (vs := [.lst (ns.map V.int)]) (vals := [.ref a]) ⟨⟨?_, ?_⟩, [], rfl⟩ ⟨_, T, HK.refl _, fun _ q => q.elim (fun q => absurd rfl q) fun q => q.elim⟩ (fun _ _ e => by cases e) (fun _ q => q.elim) (fun _ q => q.elim) ⟨fun _ q => q.elim, [], rfl, fun _ q => by cases q⟩ hd0 (fun _ => rfl) hmg (.cons (.lst (fun q => ?_) hl ?_ (by simpa using ints_rv hi)) .nil) _ (fun _ => False) K E hW (fun v val H' Sys' s' q g r k => ?_) fun e s' q => q.no.elim
  · show 1 + claimMargin + d + 150 < recursionLimit
    have : claimMargin = 300 := rfl
    have : recursionLimit = 1000 := rfl
    omega
  · show 4 + 20 * d + 200 < cLine
    have : cLine = 9900 := rfl
    omega
  · rcases q with q | q
    · exact q rfl
    · exact q
  · have : sizeLine = 16777216 := rfl
    rw [List.size_toArray]; omega
  · have hfz := frz_ok (H := H') (B := fun _ => none) (Sys := fun _ => False) (Sys' := Sys') (h := s'.heap) g.ho g.sub g.stay fun _ _ _ hs => hs
    split at q
    · rename_i v' hv'
      subst q
      cases (hfz 8).1 _ _ _ hv' r
      obtain ⟨h', tk, e, k⟩ := k
      exact hK s' ⟨h', tk, e, fun b o e => (k b o e).1 fun q => q.2⟩
    · exact q.elim

end Mine
end

section
set_option autoImplicit false
namespace Mine
open PySem
noncomputable def chainX (c : String) : List Str := if c = "BookError" then [] else [Str.ofString "BookError"]
noncomputable def quietX (h : Heap) (name : Str) : Bool := match h.clsAt mainGlobals name with
  | some (_, _, cd) => qNames.all fun n => (h.nsMap cd.ns n).isNone
  | none => false
noncomputable def atX (h : Heap) (n : Str) : Value := (h.nsMap mainGlobals n).getD .none
noncomputable def xOk (h : Heap) (c : String) : Bool := h.ownExcOk (Str.ofString c) (chainX c) bmV "ValueError.__new__" && quietX h (Str.ofString c)
noncomputable def xTest (xs : List String) (h : Heap) : Bool := h.isNs mainGlobals && xOk h "BookError" && xs.all fun c => xOk h c && xs.all fun t => (atX h (Str.ofString c) :: ((chainX c).map (atX h) ++ bmV)).contains (atX h (Str.ofString t)) == subX c t
inductive XCls (h : Heap) (c : String) : Prop
  | mk (C N nm q bs hdct sn sub ab col dd k0 k1 k2 k3 k5) : h.nsMap mainGlobals (Str.ofString c) = some (.ref C) → h.get? C = some (excClassObj nm q C N bs ((chainX c).map (atX h) ++ bmV) hdct sn sub ab col dd k0 k1 k2 k3 k5 "ValueError.__new__") → h.Ns N (h.nsMap N) → h.nsMap N "__init__" = none → (∀ n ∈ qNames, h.nsMap N n = none) → XCls h c
theorem xcls_of {h : Heap} {c : String} (x : xOk h c = true) : XCls h c := by
  obtain ⟨x, y⟩ := (Bool.and_eq_true _ _).mp x
  obtain ⟨C, N, nm, q, bs, hdct, sn, sub, ab, col, dd, k0, k1, k2, k3, k5, hb, hC, hN, hi⟩ := Heap.ownExc_of_ok x
  refine ⟨C, N, nm, q, bs, hdct, sn, sub, ab, col, dd, k0, k1, k2, k3, k5, hb, hC, hN, hi, fun n hn => ?_⟩
  unfold quietX at y
  cases hf : h.clsAt mainGlobals (Str.ofString c) with
  | none => rw [hf] at y; cases y
  | some z =>
    obtain ⟨C', o', cd'⟩ := z
    rw [hf] at y
    obtain ⟨hn', ho', hd'⟩ := Heap.clsAt_spec hf
    rw [hb] at hn'
    obtain rfl : C = C' := by injection hn' with q1; injection q1
    rw [hC] at ho'
    obtain rfl := Option.some.inj ho'
    obtain rfl : _ = cd' := by injection hd'
    exact Option.isNone_iff_eq_none.mp (List.all_eq_true.mp y n hn)
theorem xrow_of {xs : List String} {h : Heap} (x : xTest xs h = true) : h.Ns mainGlobals (h.nsMap mainGlobals) ∧ ∀ c ∈ xs, XRow (h.nsMap mainGlobals) h xs c := by
  obtain ⟨x, x3⟩ := (Bool.and_eq_true _ _).mp x
  obtain ⟨x1, x2⟩ := (Bool.and_eq_true _ _).mp x
  refine ⟨.of_isNs x1, fun c hc => ?_⟩
  obtain ⟨y1, y2⟩ := (Bool.and_eq_true _ _).mp (List.all_eq_true.mp x3 c hc)
  obtain ⟨D, N', nm', q', bs', hdct', sn', sub', ab', col', dd', k0', k1', k2', k3', k5', d1, d2, d3, d4, d5⟩ := xcls_of x2
  obtain ⟨C, N, nm, q, bs, hdct, sn, sub, ab, col, dd, k0, k1, k2, k3, k5, c1, c2, c3, c4, c5⟩ := xcls_of y1
  have ha : ∀ {n : String} {A : Addr}, h.nsMap mainGlobals (Str.ofString n) = some (.ref A) → atX h (Str.ofString n) = .ref A := fun e => by unfold atX; rw [e]; rfl
  have tl : OwnTail h bmV ((chainX c).map (atX h) ++ bmV) ∧ QTail h ((chainX c).map (atX h) ++ bmV) := by
    unfold chainX
    split
    · exact ⟨.base, .base⟩
    · rw [List.map_cons, ha d1]
      exact ⟨.own d2 d3 d4 .base, .own d2 d3 d5 .base⟩
  refine ⟨C, _, N, nm, q, bs, hdct, sn, sub, ab, col, dd, k0, k1, k2, k3, k5, _, c1, c2, c3, c4, tl.1, fun t ht E e => ?_, .own c2 c3 c5 tl.2⟩
  have := List.all_eq_true.mp y2 t ht
  rw [ha c1, ha e] at this
  exact eq_of_beq this
theorem xrow_mg {xs : List String} {h : Heap} {m mg : Str → Option Value} (x : h.Ns mainGlobals m ∧ ∀ c ∈ xs, XRow m h xs c) (g : h.Ns mainGlobals mg) : ∀ c ∈ xs, XRow mg h xs c := by
  obtain ⟨⟨o1, es1, ep1, g1, d1, _, f1⟩, x⟩ := x
  obtain ⟨o2, es2, ep2, g2, d2, _, f2⟩ := g
  rw [g1] at g2; cases g2
  rw [d1] at d2; cases d2
  have : m = mg := by funext z; rw [← f1, ← f2]
  rw [← this]; exact x
end Mine
end

section
set_option maxRecDepth 100000
set_option maxHeartbeats 8000000
open PySem PySem.W PyProof.Rows Mine Mine.L09
noncomputable def Mine.xsX : List String := ["BookError", "NoBook", "NoText", "NoPlace", "NoWord"]
noncomputable def Mine.hotX : List String := []
noncomputable def Mine.hookX : Hook := ⟨Bool, fun s => xTest xsX s.heap, fun _ => true, fun _ h => ∃ m, h.Ns mainGlobals m ∧ ∀ c ∈ xsX, XRow m h xsX c, fun _ s e => ⟨_, xrow_of e⟩, fun _ _ _ x k => let ⟨m, a, b⟩ := x; ⟨m, a.keeps k, fun c hc => (b c hc).keeps k⟩⟩
theorem Mine.saidX : PySem.Challenge.rw_uf020039_09.wellSaid = true := by
  unfold OpenLaw.wellSaid OpenRow.wellSaid OpenRow.partSaid looksOpen
  repeat' with_reducible refine look_both ?_ ?_
  all_goals decide +kernel
theorem PySem.Challenge.cw_uf020039_09_holds : PySem.Challenge.rw_uf020039_09.Holds := by
  w_on; refine PySem.W.holds_law Mine.saidX fun said => ?_; o_head Mine.hookX; (case hw => w_witness2)
  intro w s₀ s₁ mg mb G Y fa o pm cd doc dV kV ho hd hcd hD hmg hg args vals as hpre hlay hrd hwl hlo
  refine Ground.open G ?_
  intro T B D TE TW
  have hmg' : mg (Str.ofString "law") = some (.ref fa) := hmg
  have hX : ∃ m, s₁.heap.Ns mainGlobals m ∧ ∀ c ∈ xsX, XRow m s₁.heap xsX c := Y
  clear hD hcd hd ho hmg Y G B D TW
  wrow_args hpre hlay hrd hwl hlo
  rename_i ns hs hlay0 hL0 hr1 hl2 as2 as3 a vs as4 hL ra w1 r0 hI hr0 hc1 hc2
  have hlist : IsL s₁.heap a vs.toArray 0 := by
    cases w1 with
    | list h1 h2 =>
      obtain ⟨o, ho, _, n, hd⟩ := hL
      rw [h1] at ho; cases ho
      have e : vs.toArray = _ := (Data.seq.inj hd).1.symm
      rw [e]; exact h1
  obtain ⟨m, hX⟩ := hX
  obtain ⟨C, hC, hrow⟩ := cls_of (x := "Piece") (n := 3) (fs := [("size", .arg 0), ("head", .arg 1), ("tail", .arg 2), ("times", .val (.int 0)), ("first", .val .none)]) TE (by decide +kernel) (by
    intro f hf
    simp only [List.mem_cons, List.not_mem_nil, or_false] at hf
    rcases hf with rfl | rfl | rfl | rfl | rfl <;> (rw [typeLookup_type, builtinLookup_eq_fast]; kernel_rfl))
  have TT1 : TT ⟨PySem.Challenge.rw_uf020039_09.row.prog, w, mg, mb, tbl, gtab, ctab C, xsX, hotX⟩ s₁.heap := tt_of T rfl (by decide +kernel) (by decide +kernel) (by decide +kernel) (by decide +kernel)
    (by intro r hr; rw [List.mem_singleton.mp hr]; exact ⟨hC, hrow⟩)
    (xrow_mg hX T.g) (by decide +kernel)
  refine law_top (G := ⟨PySem.Challenge.rw_uf020039_09.row.prog, w, mg, mb, tbl, gtab, ctab C, xsX, hotX⟩) (d := 30) TT1 hmg' hlist hI (by omega) (by decide) (Mine.L09.main C ns (by omega)) fun s' k => ?_
  obtain ⟨h', tk, rfl, hk⟩ := k
  refine ⟨.inl ⟨.bool true, .bool true, [], rfl, ?_, .bool true, ?_, ?_⟩, ?_, rfl, ?_⟩
  · intro cls; rfl
  · wrow_post
  · intro _; exact ⟨List.nodup_nil, by simp⟩
  · exact .of_keep hk
  · exact .of_eq hg
end

import PyProof.Rows.All
import PyProof.P3Statements
import PySem.Sem
import PySem.Builtin.Str.Common
import PyProof.StrLaws
import PyProof.Defs
import PyProof.Rows.Top
import PyProof.CompMap
import PyProof.Cells
import PyProof.TupleIter
import PyProof.ListOps
import PyProof.TupleOps
import PyProof.Rows.Tup
import PyProof.Rows.PlainObj
import PyProof.RaisesMany
import PyProof.RulesTry
import PyProof.Walks
import PyProof.WalksMore
import PyProof.StrWalks
import PyProof.RangeFor
import PyProof.Rows.StrRules
import PyProof.Rows.RuleB_floordiv
import PyProof.Rows.RuleB_mod
import PyProof.Rows.RuleB_mul
import PyProof.Rows.RuleB_sub
import PyProof.Rows.IntRules
import PyProof.Rows.RuleC_int
import PyProof.Rows.RuleU_int
import PyProof.Rows.StrTemp
import PyProof.PureInt
import PyProof.Truth
import PyProof.ListTruth
import PyProof.CallRoads
import PyProof.CallType
import PyProof.EqLayable
import PyProof.P3In
import PyProof.Rows.Nodes
import PyProof.Rows.RuleB_pow
import PyProof.NoPylong
import PyProof.StrBlock2
import PyProof.ListMulRoad
import PyProof.AutoListH
import PyProof.ListIndexNeg
import PyProof.SliceMore
import PyProof.SliceStr2
import PyProof.Rows.ListMul
import PyProof.Rows.StrPins
import PyProof.IsInstanceH
import PyProof.IsiSeqPairs
import PyProof.IsiPairs
import PyProof.Rules3
import PyProof.Rules2
import PyProof.DictRoadsH
import PyProof.DictKinds
import PyProof.ExcClass2
import PyProof.P3Eq
import PyProof.EqAt
import PyProof.SeqRoads
import PyProof.FactsAll.list_1
import PyProof.Rows.Chain
import PyProof.NeData
import PyProof.IsiNone
import PyProof.DefCall
import PyProof.Rows.Range3
import PyProof.ListNew
import PyProof.ReprLoop
import PyProof.FactsAll.list
import PyProof.FactsAll.list_2
import PyProof.Draws
import PyProof.EnumMake
import PyProof.ZipIter
import PyProof.Conv_int
import PyProof.Conv_int_bool
import PyProof.CallStr
import PyProof.TupleOfSeq
import KE.IntTextLaws
import PyProof.DictIter
import PyProof.DictWalks
import PyProof.DictDisplay
import PyProof.ListCopy
import PyProof.ListStr
import PyProof.ListRange
import PyProof.Rows.StrJoin2
import PyProof.SliceSyntax
import PyProof.StrBlockL
import PyProof.Rows.SumAny
import PyProof.WalkInts
import PyProof.SeqI3
import PyProof.Rows.CallKwBuiltin
import PyProof.MinMaxWalk
import PyProof.CompFree
import PyProof.Comp
import PyProof.WalksPairs
import PyProof.Rows.TupIter
import PyProof.Rows.TopObj
import PyProof.Rows.AttrNodeAny
import PyProof.ExcArgsOwn
import PyProof.ExcAttrAll.ValueError
import PyProof.IsInstance
import PyProof.Raises
import PyProof.RulesAssignMore
import PyProof.Rows.TupAssign
import PyProof.ForAny
import PyProof.ExcBaseAll.ValueError
import PyProof.NsDelKeeps
import Wide.All
import PyProof.ExcQuiet
import Open.Line
import PySem.Challenge.RW_uf020039_13
set_option Elab.async false
set_option linter.all false
section
set_option autoImplicit false
namespace Mine
open PySem

inductive V where
  | none
  | bool (b : Bool)
  | int (i : Int)
  | str (s : Str)
  | tup (vs : List V)
  | lst (vs : List V)
  | ref (a : Nat)
  | inst (c : Nat) (ns : List String) (vs : List V)
  | iref (c : Nat) (ns : List String) (a : Nat)
  | exc (c : String)
  | dct

/-- what a key is made of -/
inductive At where
  | i (n : Int)
  | s (x : Str)
deriving DecidableEq
noncomputable abbrev HFn := List At → Int
inductive AO where
  | list (vs : List V)
  | dict (kvs : List (List At × V))
  | inst (c : Nat) (ns : List String) (vs : List V)

noncomputable abbrev AH := Nat → Option AO
noncomputable def AH.upd (H : AH) (a : Nat) (o : AO) : AH := fun b => if b = a then some o else H b

structure St where
  ρ : List (Option V)
  H : AH
  B : AH

set_option genSizeOf false
set_option genInjectivity false
inductive Bop where
  | add | sub | mul | fdiv | mod | pow
inductive Cop where
  | eq | ne | lt | le | gt | ge | is | isnot | isin | notin
inductive Ty where
  | int | bool | str | tuple | list | own (c : String) | ValueError
inductive Tg where
  | var (i : Nat)
  | tup (is : List Nat)

mutual
inductive E where
  | none
  | bool (b : Bool)
  | int (i : Int)
  | str (s : Str)
  | var (i : Nat)
  | glob (x : String)
  | bin (op : Bop) (a b : E)
  | neg (a : E)
  | not (a : E)
  | and (a b : E)
  | or (a b : E)
  | ite (t a b : E)
  | list (es : Es)
  | tup (es : Es)
  | cmp (a : E) (c : Ch)
  | sub (a i : E)
  | slice (a lo hi : E)
  | call (f : String) (args : Es)
  | isinst (a : E) (t : Ty)
  | len (a : E)
  | sum (a : E)
  | max2 (a b : E)
  | min2 (a b : E)
  | maxl (a : E)
  | maxd (a d : E)
  | strOf (a : E)
  | intOf (a : E)
  | tupOf (a : E)
  | listOf (it : It)
  | join (s a : E)
  | get (d k v : E)
  | dict0
  | attr (a : E) (n : String)
  | new (c : String) (args : Es)
  | comp (elt : E) (t : Tg) (it : It)
  | compIf (elt : E) (t : Tg) (it : It) (c : E)
  | isexc (a : E) (t : String)
  | only (a : E)
inductive Es where
  | nil
  | cons (e : E) (es : Es)
inductive Ch where
  | one (op : Cop) (e : E)
  | more (op : Cop) (e : E) (c : Ch)
inductive It where
  | seq (e : E)
  | rev (e : E)
  | range1 (n : E)
  | range2 (a b : E)
  | range3 (a b c : E)
  | enum (e : E)
  | zip (a b : E)
  | keys (e : E)
end

mutual
inductive A where
  | pure (e : E)
  | thaw (e : E)
  | list (as : As)
  | dict
  | new (c : String) (args : Es)
  | callO (f : String) (args : Es)
inductive As where
  | nil
  | cons (a : A) (as : As)
end

mutual
inductive S where
  | expr (e : E)
  | assign (t : Tg) (e : E)
  | own (i : Nat) (a : A)
  | append (e : E) (a : A)
  | pop (t : Tg) (e : E)
  | setitem (e k v : E)
  | setkey (e k v : E)
  | setattr (e : E) (n : String) (v : E)
  | setlast (e v : E)
  | ite (t : E) (a b : Bl)
  | while (t : E) (b : Bl)
  | for (t : Tg) (it : It) (b : Bl)
  | ret (e : E)
  | retO (e : E)
  | raise (c : String) (msg : E)
  | rz (c : String) (msg : E)
  | tryEx (e : E) (c : String) (x : Option Nat) (h : Bl)
inductive Bl where
  | nil
  | cons (s : S) (b : Bl)
end

structure Fn where
  np : Nat
  vars : List String
  nv : Nat
  body : Bl

set_option genSizeOf true
set_option genInjectivity true
/-! values -/
noncomputable def signsOf (s : Str) : List V := s.cps.toList.map fun c => V.str ⟨#[c]⟩
noncomputable def seqL (H : AH) : V → Option (List V)
  | .lst vs => some vs
  | .ref a => match H a with
    | some (.list vs) => some vs
    | _ => Option.none
  | _ => Option.none
noncomputable def atV : At → V
  | .i n => .int n
  | .s x => .str x
noncomputable def keyV (ks : List At) : V := .tup (ks.map atV)
noncomputable def itemsV (H : AH) : V → Option (List V)
  | .lst vs => some vs
  | .tup vs => some vs
  | .str s => some (signsOf s)
  | .ref a => match H a with
    | some (.list vs) => some vs
    | _ => Option.none
  | _ => Option.none
/-- the tracked thing that a walk over a value reads -/
noncomputable def depsV : V → List Nat
  | .ref a => [a]
  | _ => []
noncomputable def sizeV (H : AH) : V → Option Nat
  | .lst vs => some vs.length
  | .tup vs => some vs.length
  | .str s => some s.length
  | .ref a => match H a with
    | some (.list vs) => some vs.length
    | _ => Option.none
  | _ => Option.none
noncomputable def truthV (_H : AH) : V → Option Bool
  | .bool b => some b
  | _ => Option.none
noncomputable def resV (H : AH) : V → V
  | .ref a => match H a with
    | some (.list vs) => .lst vs
    | _ => .ref a
  | v => v

mutual
noncomputable def toD : V → Option PyData
  | .none => some .none
  | .bool b => some (.bool b)
  | .int i => some (.int i)
  | .str s => some (.str s)
  | .tup vs => (toDs vs).map .tuple
  | .lst vs => (toDs vs).map .list
  | .ref _ => Option.none
  | .inst _ _ _ => Option.none
  | .iref _ _ _ => Option.none
  | .exc _ => Option.none
  | .dct => Option.none
noncomputable def toDs : List V → Option (List PyData)
  | [] => some []
  | v :: vs => match toD v, toDs vs with
    | some d, some ds => some (d :: ds)
    | _, _ => Option.none
end

noncomputable def eqV (H : AH) (a b : V) (Q : Bool → Prop) : Prop :=
  match toD (resV H a), toD (resV H b) with
  | some x, some y => x.depth ≤ 64 ∧ Q (PyData.eqv x y)
  | _, _ => False

/-- a text holds another one -/
noncomputable def hasSub (s t : Str) : Bool := !(Builtin.Str.occurrences s t 0 s.length 1).isEmpty

noncomputable def atOf : V → Option At
  | .int n => some (.i n)
  | .str x => some (.s x)
  | _ => Option.none
noncomputable def atsOf : List V → Option (List At)
  | [] => some []
  | v :: vs => (match atOf v, atsOf vs with
    | some a, some as => some (a :: as)
    | _, _ => Option.none)
/-- a pair, as a key -/
noncomputable def keyP : V → (List At → Prop) → Prop
  | .tup vs, P => (match atsOf vs with
    | some ks => P ks
    | Option.none => False)
  | _, _ => False
noncomputable def dlook (k : List At) : List (List At × V) → Option V
  | [] => Option.none
  | (a, v) :: r => if a = k then some v else dlook k r
noncomputable def dput (k : List At) (v : V) : List (List At × V) → List (List At × V)
  | [] => [(k, v)]
  | (a, w) :: r => if a = k then (a, v) :: r else (a, w) :: dput k v r
noncomputable def dictP (H : AH) (u : V) (P : Nat → List (List At × V) → Prop) : Prop := match u with
  | .ref a => (match H a with
    | some (.dict kvs) => P a kvs
    | _ => False)
  | _ => False

/-- whole numbers, as arguments of range -/
noncomputable def intP : V → (Int → Prop) → Prop
  | .int i, P => P i
  | _, _ => False
noncomputable def smallI (i : Int) : Prop := -(2 ^ 62) ≤ i ∧ i < 2 ^ 62
noncomputable def strP : V → (Str → Prop) → Prop
  | .str s, P => P s
  | _, _ => False
noncomputable def noneP : V → Prop → Prop
  | .none, P => P
  | _, _ => False
noncomputable def isNone : V → Bool
  | .none => true
  | _ => false
noncomputable def seqP (H : AH) (v : V) (P : List V → Prop) : Prop := match seqL H v with
  | some x => P x
  | Option.none => False
/-- a list or a tuple -/
noncomputable def rowL (H : AH) : V → Option (List V)
  | .lst vs => some vs
  | .tup vs => some vs
  | .ref a => match H a with
    | some (.list vs) => some vs
    | _ => Option.none
  | _ => Option.none
noncomputable def rowP (H : AH) (v : V) (P : List V → Prop) : Prop := match rowL H v with
  | some x => P x
  | Option.none => False
noncomputable def inV (H : AH) (x c : V) (Q : Bool → Prop) : Prop := match c with
  | .str s => strP x fun t => Q (hasSub s t)
  | c => dictP H c fun _ kvs => keyP x fun ks => Q (dlook ks kvs).isSome
noncomputable def cmpV (H : AH) (op : Cop) (a b : V) (Q : Bool → Prop) : Prop := match op with
  | .eq => eqV H a b Q
  | .ne => eqV H a b fun r => Q (!r)
  | .lt => intP a fun i => intP b fun j => Q (decide (i < j))
  | .le => intP a fun i => intP b fun j => Q (decide (i ≤ j))
  | .gt => intP a fun i => intP b fun j => Q (decide (i > j))
  | .ge => intP a fun i => intP b fun j => Q (decide (i ≥ j))
  | .is => noneP b (Q (isNone a))
  | .isnot => noneP b (Q (!isNone a))
  | .isin => inV H a b Q
  | .notin => inV H a b fun r => Q (!r)

noncomputable def repL {α : Type} (n : Nat) (xs : List α) : List α := (List.replicate n xs).flatten

noncomputable def addV (H : AH) (a b : V) (Q : V → Prop) : Prop := match a with
  | .int i => intP b fun j => Q (.int (i + j))
  | .str s => strP b fun t => s.length + t.length ≤ sizeLine ∧ Q (.str (s ++ t))
  | a => seqP H a fun x => seqP H b fun y => x.length + y.length ≤ sizeLine ∧ Q (.lst (x ++ y))
noncomputable def mulV (a b : V) (Q : V → Prop) : Prop := match a with
  | .int i => intP b fun j => (i.natAbs < 2 ^ 62 ∨ j.natAbs < 2 ^ 62) ∧ Q (.int (i * j))
  | .lst vs => intP b fun n => -(2 ^ 62) ≤ n ∧ n < 2 ^ 62 ∧ vs.length * n.toNat ≤ sizeLine ∧ Q (.lst (repL n.toNat vs))
  | .str s => intP b fun n => 0 ≤ n ∧ n < 2 ^ 30 ∧ s.length * n.toNat ≤ sizeLine ∧ Q (.str ⟨(repL n.toNat s.cps.toList).toArray⟩)
  | _ => False
noncomputable def binV (H : AH) (op : Bop) (a b : V) (Q : V → Prop) : Prop := match op with
  | .add => addV H a b Q
  | .sub => intP a fun i => intP b fun j => Q (.int (i - j))
  | .mul => mulV a b Q
  | .fdiv => intP a fun i => intP b fun j => j ≠ 0 ∧ Q (.int (i.fdiv j))
  | .mod => intP a fun i => intP b fun j => j ≠ 0 ∧ Q (.int (i.fmod j))
  | .pow => intP a fun i => intP b fun j => i = 10 ∧ (j = 30 ∨ j = 40) ∧ Q (.int (10 ^ j.toNat))

/-- a place in a row of n, from behind if it is negative -/
noncomputable def idx (n : Nat) (i : Int) : Option Nat :=
  if 0 ≤ i then (if i < n then some i.toNat else Option.none) else (if 0 ≤ i + n then some (i + n).toNat else Option.none)

noncomputable def subV (H : AH) : V → V → (V → Prop) → Prop
  | .ref a, k, Q => (match H a with
    | some (.dict kvs) => keyP k fun ks => (match dlook ks kvs with
      | some v => Q v
      | Option.none => False)
    | some (.list vs) => (match k with
      | .int i => (match idx vs.length i with
        | some n => (match vs[n]? with
          | some v => Q v
          | Option.none => False)
        | Option.none => False)
      | _ => False)
    | _ => False)
  | .str s, .int i, Q => (match idx s.length i with
    | some n => (match s.cps.toList[n]? with
      | some c => Q (.str ⟨#[c]⟩)
      | Option.none => False)
    | Option.none => False)
  | .lst vs, .int i, Q => (match idx vs.length i with
    | some n => (match vs[n]? with
      | some v => Q v
      | Option.none => False)
    | Option.none => False)
  | .tup vs, .int i, Q => (match idx vs.length i with
    | some n => (match vs[n]? with
      | some v => Q v
      | Option.none => False)
    | Option.none => False)
  | _, _, _ => False

/-- where a cut begins or ends -/
noncomputable def clip (n : Nat) (i : Int) : Nat := (max 0 (min (if i < 0 then i + n else i) n)).toNat
noncomputable def bnd (n d : Nat) : V → Option Nat
  | .none => some d
  | .int i => some (clip n i)
  | _ => Option.none
noncomputable def cutL {α : Type} (xs : List α) (lo hi : Nat) : List α := (xs.drop lo).take (hi - lo)

noncomputable def sliceV (H : AH) (a lo hi : V) (Q : V → Prop) : Prop :=
  match a with
  | .str s => (match bnd s.length 0 lo, bnd s.length s.length hi with
    | some l, some h => Q (.str ⟨(cutL s.cps.toList l h).toArray⟩)
    | _, _ => False)
  | v => (match seqL H v with
    | some vs => (match bnd vs.length 0 lo, bnd vs.length vs.length hi with
      | some l, some h => Q (.lst (cutL vs l h))
      | _, _ => False)
    | Option.none => False)

noncomputable def isV : Ty → V → Option Bool
  | _, .ref _ => Option.none
  | _, .inst _ _ _ => Option.none
  | _, .iref _ _ _ => Option.none
  | _, .exc _ => Option.none
  | .int, .int _ => some true
  | .int, .bool _ => some true
  | .int, _ => some false
  | .bool, .bool _ => some true
  | .bool, _ => some false
  | .str, .str _ => some true
  | .str, _ => some false
  | .tuple, .tup _ => some true
  | .tuple, _ => some false
  | .list, .lst _ => some true
  | .list, _ => some false
  | _, _ => Option.none
noncomputable def isT (H : AH) (t : Ty) (v : V) : Option Bool := match v with
  | .ref a => (match H a with
    | some (.list _) => isV t (.lst [])
    | _ => Option.none)
  | v => isV t v

noncomputable def intsOf : List V → Option (List Int)
  | [] => some []
  | .int i :: r => (intsOf r).map (i :: ·)
  | _ => Option.none
noncomputable def strsOf : List V → Option (List Str)
  | [] => some []
  | .str s :: r => (strsOf r).map (s :: ·)
  | _ => Option.none
noncomputable def lenAll : List Str → Nat
  | [] => 0
  | s :: r => s.length + lenAll r
noncomputable def maxI : Int → List Int → Int
  | m, [] => m
  | m, x :: r => maxI (if x > m then x else m) r

noncomputable def digitsVal (l : List Nat) : Nat := l.foldl (fun n c => n * 10 + (c - 48)) 0
noncomputable def allDigits (l : List Nat) : Bool := l.all fun c => 48 ≤ c && c ≤ 57

/-- int(..) of a truth value or of figures -/
noncomputable def intOfV : V → (V → Prop) → Prop
  | .bool b, Q => Q (.int (if b then 1 else 0))
  | .str s, Q => allDigits s.cps.toList = true ∧ 0 < s.length ∧ s.length ≤ 100 ∧ Q (.int (digitsVal s.cps.toList))
  | _, _ => False
noncomputable def upL (a b : Int) : List V := (List.range (b - a).toNat).map fun (k : Nat) => .int (a + k)
noncomputable def downL (a b : Int) : List V := (List.range (a - b).toNat).map fun (k : Nat) => .int (a - k)

noncomputable def enumL (n : Nat) : List V → List V
  | [] => []
  | v :: vs => .tup [.int n, v] :: enumL (n + 1) vs
noncomputable def zipL : List V → List V → List V
  | x :: xs, y :: ys => .tup [x, y] :: zipL xs ys
  | _, _ => []

noncomputable def putV (i : Nat) (v : V) (ρ : List (Option V)) : Option (List (Option V)) := if i < ρ.length then some (ρ.set i (some v)) else Option.none
noncomputable def setAll : List Nat → List V → List (Option V) → Option (List (Option V))
  | [], [], ρ => some ρ
  | i :: is, v :: vs, ρ => match putV i v ρ with
    | some ρ' => setAll is vs ρ'
    | Option.none => Option.none
  | _, _, _ => Option.none
noncomputable def bindT : Tg → V → List (Option V) → Option (List (Option V))
  | .var i, v, ρ => putV i v ρ
  | .tup is, .tup vs, ρ => setAll is vs ρ
  | _, _, _ => Option.none

noncomputable def rng1 : List V → (Int → Prop) → Prop
  | [u], P => intP u fun i => smallI i ∧ P i
  | _, _ => False
noncomputable def rng2 : List V → (Int → Int → Prop) → Prop
  | [u, v], P => intP u fun i => intP v fun j => smallI i ∧ smallI j ∧ P i j
  | _, _ => False
noncomputable def rng3 : List V → (Int → Int → Int → Prop) → Prop
  | [u, v, w], P => intP u fun i => intP v fun j => intP w fun k => smallI i ∧ smallI j ∧ P i j k
  | _, _ => False

noncomputable def intsP (vs : List V) (P : List Int → Prop) : Prop := match intsOf vs with
  | some is => P is
  | Option.none => False
noncomputable def sum1 (H : AH) : List V → (Int → Prop) → Prop
  | [u], P => seqP H u fun vs => intsP vs fun is => P is.sum
  | _, _ => False
noncomputable def max1 (H : AH) : List V → (Int → Prop) → Prop
  | [u], P => seqP H u fun vs => intsP vs fun is => is ≠ [] ∧ P (maxI (is.headD 0) is.tail)
  | _, _ => False
noncomputable def maxD (H : AH) (u v : V) (Q : V → Prop) : Prop := seqP H u fun vs => intsP vs fun is => Q (match is with
  | [] => v
  | i :: r => .int (maxI i r))
noncomputable def int2 : List V → (Int → Int → Prop) → Prop
  | [u, v], P => intP u fun i => intP v fun j => P i j
  | _, _ => False

noncomputable def setV (H B : AH) (u kk : V) (P : Nat → List V → Nat → Prop) : Prop := match u with
  | .ref ad => intP kk fun i => B ad = Option.none ∧ 0 ≤ i ∧ ∃ vs, H ad = some (.list vs) ∧ i < vs.length ∧ P ad vs i.toNat
  | _ => False

noncomputable def mapO (f : V → Option V) : List V → Option (List V)
  | [] => some []
  | v :: vs => match f v, mapO f vs with
    | some x, some xs => some (x :: xs)
    | _, _ => Option.none
noncomputable def frz (H B : AH) : Nat → V → Option V
  | 0, _ => Option.none
  | n + 1, v => match v with
    | .ref a => (match B a with
      | some _ => some (.ref a)
      | Option.none => (match H a with
        | some (.list vs) => (mapO (frz H B n) vs).map .lst
        | _ => Option.none))
    | .iref c ns a => (match B a with
      | some _ => some (.iref c ns a)
      | Option.none => (match H a with
        | some (.inst _ ns' vs) => if ns' = ns then (mapO (frz H B n) vs).map (.inst c ns) else Option.none
        | _ => Option.none))
    | .tup vs => (mapO (frz H B n) vs).map .tup
    | .lst vs => (mapO (frz H B n) vs).map .lst
    | .inst c ns vs => (mapO (frz H B n) vs).map (.inst c ns)
    | v => some v
noncomputable def frzs (H B : AH) (n : Nat) (vs : List V) : Option (List V) := mapO (frz H B n) vs

noncomputable abbrev RunSem := String → List V → AH → (V → AH → Prop) → (String → Prop) → Prop
/-- what a list that a call has made holds, as its caller sees it -/
noncomputable def giveV (H' H : AH) (a : Nat) (w : V) : Option V := match w with
  | .ref b => if b = a then Option.none else (match H b with
    | some _ => Option.none
    | Option.none => (match H' b with
      | some (.list us) => some (.lst us)
      | _ => Option.none))
  | w => some w
noncomputable def giveP (H' H : AH) (v : V) (Q : List V → Prop) : Prop := match v with
  | .ref a => (match H a with
    | some _ => False
    | Option.none => (match H' a with
      | some (.list ws) => (match mapO (giveV H' H a) ws with
        | some ws' => Q ws'
        | Option.none => False)
      | _ => False))
  | _ => False
inductive Ini where
  | arg (i : Nat)
  | val (v : V)
structure Cx where
  run : RunSem
  glob : String → Option V
  cls : String → Option (Nat × Nat × List (String × Ini))
  has : Nat → List String → Bool

noncomputable def Cx.call (C : Cx) (f : String) (vs : List V) (H : AH) (Q : V → Prop) (X : String → Prop) : Prop := C.run f vs H (fun v H' => match frz H' H 8 v with
  | some v' => Q v'
  | Option.none => False) X
noncomputable def Cx.callO (C : Cx) (f : String) (vs : List V) (H : AH) (Q : List V → Prop) (X : String → Prop) : Prop := C.run f vs H (fun v H' => giveP H' H v Q) X
noncomputable def iniV (args : List V) : Ini → V
  | .arg i => (args[i]?).getD .none
  | .val v => v
noncomputable def attrL (n : String) : List String → List V → Option V
  | m :: ns, v :: vs => if m = n then some v else attrL n ns vs
  | _, _ => Option.none
noncomputable def setAttrL (n : String) (w : V) : List String → List V → Option (List V)
  | m :: ns, v :: vs => if m = n then some (w :: vs) else (setAttrL n w ns vs).map (v :: ·)
  | _, _ => Option.none

/-- one class of exceptions below another -/
noncomputable def allX : List String := ["BookError", "NoBook", "NoText", "NoPlace", "NoWord"]
noncomputable def subX (c t : String) : Bool := allX.contains c && (decide (c = t) || decide (t = "BookError") || decide (t = "ValueError"))
noncomputable def compL (f : V → (Option V → Prop) → Prop) : List V → (List V → Prop) → Prop
  | [], Q => Q []
  | x :: xs, Q => f x fun r => compL f xs fun ys => Q (match r with
    | some y => y :: ys
    | Option.none => ys)

mutual
noncomputable def WE (C : Cx) : E → St → (V → Prop) → (String → Prop) → Prop
  | .none, _, Q, _ => Q .none
  | .bool b, _, Q, _ => Q (.bool b)
  | .int i, _, Q, _ => Q (.int i)
  | .str s, _, Q, _ => Q (.str s)
  | .var i, st, Q, _ => (match st.ρ[i]? with
    | some (some v) => Q v
    | _ => False)
  | .glob x, _, Q, _ => (match C.glob x with
    | some v => Q v
    | Option.none => False)
  | .bin op a b, st, Q, X => WE C a st (fun u => WE C b st (fun v => binV st.H op u v Q) X) X
  | .neg a, st, Q, X => WE C a st (fun u => match u with
    | .int i => Q (.int (-i))
    | _ => False) X
  | .not a, st, Q, X => WE C a st (fun u => match truthV st.H u with
    | some b => Q (.bool (!b))
    | Option.none => False) X
  | .and a b, st, Q, X => WE C a st (fun u => match truthV st.H u with
    | some true => WE C b st Q X
    | some false => Q u
    | Option.none => False) X
  | .or a b, st, Q, X => WE C a st (fun u => match truthV st.H u with
    | some true => Q u
    | some false => WE C b st Q X
    | Option.none => False) X
  | .ite t a b, st, Q, X => WE C t st (fun u => match truthV st.H u with
    | some true => WE C a st Q X
    | some false => WE C b st Q X
    | Option.none => False) X
  | .list es, st, Q, X => WEs C es st (fun vs => vs.length ≤ sizeLine ∧ Q (.lst vs)) X
  | .tup es, st, Q, X => WEs C es st (fun vs => vs.length ≤ sizeLine ∧ Q (.tup vs)) X
  | .cmp a c, st, Q, X => WE C a st (fun u => WCh C c st u (fun b => Q (.bool b)) X) X
  | .sub a i, st, Q, X => WE C a st (fun u => WE C i st (fun k => subV st.H u k Q) X) X
  | .slice a lo hi, st, Q, X => WE C a st (fun u => WE C lo st (fun l => WE C hi st (fun h => sliceV st.H u l h Q) X) X) X
  | .call f args, st, Q, X => WEs C args st (fun vs => C.call f vs st.H Q X) X
  | .isinst a t, st, Q, X => WE C a st (fun u => match isT st.H t u with
    | some b => Q (.bool b)
    | Option.none => False) X
  | .len a, st, Q, X => WE C a st (fun u => match sizeV st.H u with
    | some n => Q (.int n)
    | Option.none => False) X
  | .sum a, st, Q, X => WE C a st (fun u => sum1 st.H [u] fun n => Q (.int n)) X
  | .max2 a b, st, Q, X => WE C a st (fun u => WE C b st (fun v => int2 [u, v] fun i j => Q (.int (if j > i then j else i))) X) X
  | .min2 a b, st, Q, X => WE C a st (fun u => WE C b st (fun v => int2 [u, v] fun i j => Q (.int (if j < i then j else i))) X) X
  | .maxl a, st, Q, X => WE C a st (fun u => max1 st.H [u] fun n => Q (.int n)) X
  | .maxd a d, st, Q, X => WE C a st (fun u => WE C d st (fun v => maxD st.H u v Q) X) X
  | .strOf a, st, Q, X => WE C a st (fun u => intP u fun i => i.natAbs < 2 ^ 62 ∧ Q (.str (Str.ofString (toString i)))) X
  | .intOf a, st, Q, X => WE C a st (fun u => intOfV u Q) X
  | .tupOf a, st, Q, X => WE C a st (fun u => seqP st.H u fun vs => Q (.tup vs)) X
  | .listOf it, st, Q, X => WI C it st (fun vs _ => vs.length ≤ sizeLine ∧ Q (.lst vs)) X
  | .join s a, st, Q, X => WE C s st (fun u => WE C a st (fun v => match u, (seqL st.H v).bind strsOf with
    | .str s, some ss => lenAll ss + s.length * ss.length ≤ sizeLine ∧ Q (.str (Str.join s ss))
    | _, _ => False) X) X
  | .get d k v, st, Q, X => WE C d st (fun u => dictP st.H u fun _ kvs => WE C k st (fun kk => WE C v st (fun w => keyP kk fun ks => Q ((dlook ks kvs).getD w)) X) X) X
  | .dict0, _, Q, _ => Q .dct
  | .attr a n, st, Q, X => WE C a st (fun u => match u with
    | .inst c ns vs => C.has c ns = true ∧ (match attrL n ns vs with
      | some v => Q v
      | Option.none => False)
    | .iref c ns ad => (match st.H ad with
      | some (.inst c' ns' vs) => C.has c ns = true ∧ c' = c ∧ ns' = ns ∧ (match attrL n ns vs with
        | some v => Q v
        | Option.none => False)
      | _ => False)
    | _ => False) X
  | .new c args, st, Q, X => (match C.cls c with
    | some (k, n, fs) => WEs C args st (fun vs => vs.length = n ∧ Q (.inst k (fs.map (·.1)) (fs.map fun f => iniV vs f.2))) X
    | Option.none => False)
  | .comp elt t it, st, Q, X => WI C it st (fun xs _ => xs.length ≤ sizeLine ∧
      compL (fun x k => match bindT t x st.ρ with
        | some ρ' => WE C elt { st with ρ := ρ' } (fun y => k (some y)) (fun _ => False)
        | Option.none => False) xs (fun ys => Q (.lst ys))) X
  | .compIf elt t it c, st, Q, X => WI C it st (fun xs _ => xs.length ≤ sizeLine ∧
      compL (fun x k => match bindT t x st.ρ with
        | some ρ' => WE C c { st with ρ := ρ' } (fun u => match truthV st.H u with
          | some true => WE C elt { st with ρ := ρ' } (fun y => k (some y)) (fun _ => False)
          | some false => k Option.none
          | Option.none => False) (fun _ => False)
        | Option.none => False) xs (fun ys => Q (.lst ys))) X
  | .isexc a t, st, Q, X => WE C a st (fun u => match u with
    | .exc c => allX.contains c = true ∧ Q (.bool (subX c t))
    | _ => False) X
  | .only a, st, _, X => WE C a st (fun _ => False) X
noncomputable def WEs (C : Cx) : Es → St → (List V → Prop) → (String → Prop) → Prop
  | .nil, _, Q, _ => Q []
  | .cons e es, st, Q, X => WE C e st (fun v => WEs C es st (fun vs => Q (v :: vs)) X) X
noncomputable def WCh (C : Cx) : Ch → St → V → (Bool → Prop) → (String → Prop) → Prop
  | .one op e, st, u, Q, X => WE C e st (fun v => cmpV st.H op u v Q) X
  | .more op e c, st, u, Q, X => WE C e st (fun v => cmpV st.H op u v (fun b => if b then WCh C c st v Q X else Q false)) X
noncomputable def WI (C : Cx) : It → St → (List V → List Nat → Prop) → (String → Prop) → Prop
  | .seq e, st, Q, X => WE C e st (fun u => match itemsV st.H u with
    | some vs => Q vs (depsV u)
    | Option.none => False) X
  | .rev e, st, Q, X => WE C e st (fun u => match seqL st.H u with
    | some vs => Q vs.reverse (depsV u)
    | Option.none => False) X
  | .range1 n, st, Q, X => WE C n st (fun u => rng1 [u] fun i => Q (upL 0 i) []) X
  | .range2 a b, st, Q, X => WE C a st (fun u => WE C b st (fun v => rng2 [u, v] fun i j => Q (upL i j) []) X) X
  | .range3 a b c, st, Q, X => WE C a st (fun u => WE C b st (fun v => WE C c st (fun w => rng3 [u, v, w] fun i j k => k = -1 ∧ Q (downL i j) []) X) X) X
  | .enum e, st, Q, X => WE C e st (fun u => rowP st.H u fun vs => Q (enumL 0 vs) (depsV u)) X
  | .zip a b, st, Q, X => WE C a st (fun u => WE C b st (fun v => rowP st.H u fun xs => rowP st.H v fun ys => Q (zipL xs ys) (depsV u ++ depsV v)) X) X
  | .keys e, st, Q, X => WE C e st (fun u => dictP st.H u fun a kvs => Q (kvs.map fun p => keyV p.1) [a]) X
end

noncomputable def freshAt (st : St) (a : Nat) : Prop := st.H a = Option.none ∧ st.B a = Option.none

mutual
noncomputable def WA (C : Cx) : A → St → (V → AH → Prop) → (String → Prop) → Prop
  | .pure e, st, Q, X => WE C e st (fun v => Q v st.H) X
  | .thaw e, st, Q, X => WE C e st (fun v => match v with
    | .lst vs => ∀ a, freshAt st a → Q (.ref a) (st.H.upd a (.list vs))
    | _ => False) X
  | .list as, st, Q, X => WAs C as st (fun vs H' => vs.length ≤ sizeLine ∧ ∀ a, H' a = Option.none → st.B a = Option.none → Q (.ref a) (H'.upd a (.list vs))) X
  | .dict, st, Q, _ => ∀ a, freshAt st a → Q (.ref a) (st.H.upd a (.dict []))
  | .new c args, st, Q, X => (match C.cls c with
    | some (k, n, fs) => WEs C args st (fun vs => vs.length = n ∧ ∀ a, freshAt st a → Q (.iref k (fs.map (·.1)) a) (st.H.upd a (.inst k (fs.map (·.1)) (fs.map fun f => iniV vs f.2)))) X
    | Option.none => False)
  | .callO f args, st, Q, X => WEs C args st (fun vs => C.callO f vs st.H (fun ws => ∀ a, freshAt st a → Q (.ref a) (st.H.upd a (.list ws))) X) X
noncomputable def WAs (C : Cx) : As → St → (List V → AH → Prop) → (String → Prop) → Prop
  | .nil, st, Q, _ => Q [] st.H
  | .cons a as, st, Q, X => WA C a st (fun v H' => WAs C as { st with H := H' } (fun vs H'' => Q (v :: vs) H'') X) X
end

mutual
/-- statements that turn nothing but names -/
noncomputable def quietS : S → Bool
  | .expr _ => true
  | .assign _ _ => true
  | .own _ _ => true
  | .ite _ a b => quietB a && quietB b
  | .ret _ => true
  | _ => false
noncomputable def quietB : Bl → Bool
  | .nil => true
  | .cons s b => quietS s && quietB b
end
inductive Fl where
  | next | brk | cont
  | ret (v : V)

noncomputable def whileN (T : St → (Bool → Prop) → Prop) (W : St → (Fl → St → Prop) → Prop) (Q : Fl → St → Prop) : Nat → St → Prop
  | 0, _ => False
  | n + 1, st => T st fun b => if b then W st (fun f st' => match f with
      | .next | .cont => whileN T W Q n st'
      | .brk => Q .next st'
      | .ret v => Q (.ret v) st') else Q .next st

noncomputable def forL (t : Tg) (W : St → (Fl → St → Prop) → Prop) (Q : Fl → St → Prop) : List V → St → Prop
  | [], st => Q .next st
  | x :: xs, st => match bindT t x st.ρ with
    | some ρ' => W { st with ρ := ρ' } (fun f st' => match f with
      | .next | .cont => forL t W Q xs st'
      | .brk => Q .next st'
      | .ret v => Q (.ret v) st')
    | Option.none => False

mutual
noncomputable def WS (C : Cx) : S → St → (Fl → St → Prop) → (String → St → Prop) → Prop
  | .expr e, st, Q, X => WE C e st (fun _ => Q .next st) (fun x => X x st)
  | .assign t e, st, Q, X => WE C e st (fun v => match bindT t v st.ρ with
    | some ρ' => Q .next { st with ρ := ρ' }
    | Option.none => False) (fun x => X x st)
  | .own i a, st, Q, X => WA C a st (fun v H' => match putV i v st.ρ with
    | some ρ' => Q .next { st with ρ := ρ', H := H' }
    | Option.none => False) (fun x => X x st)
  | .append e a, st, Q, X => WE C e st (fun v => match v with
    | .ref ad => (match st.H ad with
      | some (.list _) => WA C a st (fun w H' => match H' ad with
        | some (.list vs) => st.B ad = Option.none ∧ vs.length < sizeLine ∧ Q .next { st with H := H'.upd ad (.list (vs ++ [w])) }
        | _ => False) (fun x => X x st)
      | _ => False)
    | _ => False) (fun x => X x st)
  | .pop t e, st, Q, X => WE C e st (fun v => match v with
    | .ref ad => (match st.H ad with
      | some (.list vs) => (match vs.getLast? with
        | some w => st.B ad = Option.none ∧ (match bindT t w st.ρ with
          | some ρ' => Q .next { st with ρ := ρ', H := st.H.upd ad (.list vs.dropLast) }
          | Option.none => False)
        | Option.none => False)
      | _ => False)
    | _ => False) (fun x => X x st)
  | .setitem e k v, st, Q, X => WE C v st (fun w => WE C e st (fun u => WE C k st (fun kk => setV st.H st.B u kk fun ad vs n => Q .next { st with H := st.H.upd ad (.list (vs.set n w)) }) (fun x => X x st)) (fun x => X x st)) (fun x => X x st)
  | .setkey e k v, st, Q, X => WE C v st (fun w => WE C e st (fun u => WE C k st (fun kk => dictP st.H u fun ad kvs => keyP kk fun ks => st.B ad = Option.none ∧ kvs.length < sizeLine ∧ Q .next { st with H := st.H.upd ad (.dict (dput ks w kvs)) }) (fun x => X x st)) (fun x => X x st)) (fun x => X x st)
  | .setattr e n v, st, Q, X => WE C v st (fun w => WE C e st (fun u => match u with
    | .iref c' ns' ad => st.B ad = Option.none ∧ (match st.H ad with
      | some (.inst c ns vs) => C.has c ns = true ∧ c = c' ∧ ns = ns' ∧ (match setAttrL n w ns vs with
        | some vs' => Q .next { st with H := st.H.upd ad (.inst c ns vs') }
        | Option.none => False)
      | _ => False)
    | _ => False) (fun x => X x st)) (fun x => X x st)
  | .setlast e v, st, Q, X => WE C v st (fun w => WE C e st (fun u => match u with
    | .ref ad => st.B ad = Option.none ∧ (match st.H ad with
      | some (.list vs) => vs ≠ [] ∧ Q .next { st with H := st.H.upd ad (.list (vs.set (vs.length - 1) w)) }
      | _ => False)
    | _ => False) (fun x => X x st)) (fun x => X x st)
  | .ite t a b, st, Q, X => WE C t st (fun u => match truthV st.H u with
    | some true => WB C a st Q X
    | some false => WB C b st Q X
    | Option.none => False) (fun x => X x st)
  | .while t b, st, Q, X => ∃ n, whileN (fun st' K => WE C t st' (fun u => match truthV st'.H u with
      | some r => K r
      | Option.none => False) (fun x => X x st')) (fun st' K => WB C b st' K X) Q n st
  | .for t it b, st, Q, X => WI C it st (fun xs ds => (quietB b = true ∨ ∀ a ∈ ds, st.B a ≠ Option.none) ∧ forL t (fun st' K => WB C b st' K X) Q xs st) (fun x => X x st)
  | .ret e, st, Q, X => WE C e st (fun v => Q (.ret v) st) (fun x => X x st)
  | .retO e, st, Q, X => WE C e st (fun v => match v with
    | .lst vs => ∀ a, freshAt st a → Q (.ret (.ref a)) { st with H := st.H.upd a (.list vs) }
    | _ => False) (fun x => X x st)
  | .raise _ _, _, _, _ => False
  | .rz c m, st, _, X => WE C m st (fun _ => X c st) (fun x => X x st)
  | .tryEx e cl x h, st, Q, X => WE C e st (fun _ => Q .next st) (fun c => subX c cl = true ∧ (match x with
    | Option.none => WB C h st Q (fun _ _ => False)
    | some i => i < st.ρ.length ∧ WB C h { st with ρ := st.ρ.set i (some (.exc c)) } (fun f st' => Q f { st' with ρ := st'.ρ.set i Option.none }) (fun _ _ => False)))
noncomputable def WB (C : Cx) : Bl → St → (Fl → St → Prop) → (String → St → Prop) → Prop
  | .nil, st, Q, _ => Q .next st
  | .cons s b, st, Q, X => WS C s st (fun f st' => match f with
    | .next => WB C b st' Q X
    | f => Q f st') X
end

noncomputable abbrev Tbl := List (String × Fn)
noncomputable abbrev Clss := List (String × Nat × Nat × List (String × Ini))
noncomputable def hasC (cls : Clss) (c : Nat) (ns : List String) : Bool := cls.any fun r => decide (r.2.1 = c) && decide (r.2.2.2.map (·.1) = ns)

noncomputable def runN (tbl : Tbl) (glob : List (String × V)) (cls : Clss) : Nat → RunSem
  | 0 => fun _ _ _ _ _ => False
  | d + 1 => fun f args H Q X => match tbl.lookup f with
    | Option.none => False
    | some fn => args.length = fn.np ∧ fn.np ≤ fn.nv ∧ WB ⟨runN tbl glob cls d, fun x => glob.lookup x, fun x => cls.lookup x, hasC cls⟩ fn.body
        ⟨args.map some ++ List.replicate (fn.nv - fn.np) Option.none, H, H⟩
        (fun fl st => match fl with
          | .ret v => Q v st.H
          | .next => Q .none st.H
          | _ => False) (fun x _ => X x)
noncomputable def cxN (tbl : Tbl) (glob : List (String × V)) (cls : Clss) (d : Nat) : Cx := ⟨runN tbl glob cls d, fun x => glob.lookup x, fun x => cls.lookup x, hasC cls⟩

/-- a thing that an expression has just made -/
noncomputable def isFresh : E → Bool
  | .list _ => true
  | .comp _ _ _ => true
  | .compIf _ _ _ _ => true
  | .listOf _ => true
  | .bin _ _ _ => true
  | _ => false

end Mine
end

set_option autoImplicit false
namespace Mine
open PySem
@[local simp] theorem we_0 {C} {u1} {Q} {u3} : WE C (.none) u1 Q u3 = (Q .none) := rfl
@[local simp] theorem we_1 {C} {b} {u1} {Q} {u3} : WE C (.bool b) u1 Q u3 = (Q (.bool b)) := rfl
@[local simp] theorem we_2 {C} {i} {u1} {Q} {u3} : WE C (.int i) u1 Q u3 = (Q (.int i)) := rfl
@[local simp] theorem we_3 {C} {s} {u1} {Q} {u3} : WE C (.str s) u1 Q u3 = (Q (.str s)) := rfl
theorem we_4 {C} {i} {st} {Q} {u3} : WE C (.var i) st Q u3 = ((match st.ρ[i]? with
    | some (some v) => Q v
    | _ => False)) := rfl
@[local simp] theorem we_5 {C} {x} {u1} {Q} {u3} : WE C (.glob x) u1 Q u3 = ((match C.glob x with
    | some v => Q v
    | Option.none => False)) := rfl
@[local simp] theorem we_6 {C} {op} {a} {b} {st} {Q} {X} : WE C (.bin op a b) st Q X = (WE C a st (fun u => WE C b st (fun v => binV st.H op u v Q) X) X) := rfl
@[local simp] theorem we_7 {C} {a} {st} {Q} {X} : WE C (.neg a) st Q X = (WE C a st (fun u => match u with
    | .int i => Q (.int (-i))
    | _ => False) X) := rfl
@[local simp] theorem we_8 {C} {a} {st} {Q} {X} : WE C (.not a) st Q X = (WE C a st (fun u => match truthV st.H u with
    | some b => Q (.bool (!b))
    | Option.none => False) X) := rfl
@[local simp] theorem we_9 {C} {a} {b} {st} {Q} {X} : WE C (.and a b) st Q X = (WE C a st (fun u => match truthV st.H u with
    | some true => WE C b st Q X
    | some false => Q u
    | Option.none => False) X) := rfl
@[local simp] theorem we_10 {C} {a} {b} {st} {Q} {X} : WE C (.or a b) st Q X = (WE C a st (fun u => match truthV st.H u with
    | some true => Q u
    | some false => WE C b st Q X
    | Option.none => False) X) := rfl
@[local simp] theorem we_11 {C} {t} {a} {b} {st} {Q} {X} : WE C (.ite t a b) st Q X = (WE C t st (fun u => match truthV st.H u with
    | some true => WE C a st Q X
    | some false => WE C b st Q X
    | Option.none => False) X) := rfl
@[local simp] theorem we_12 {C} {es} {st} {Q} {X} : WE C (.list es) st Q X = (WEs C es st (fun vs => vs.length ≤ sizeLine ∧ Q (.lst vs)) X) := rfl
@[local simp] theorem we_13 {C} {es} {st} {Q} {X} : WE C (.tup es) st Q X = (WEs C es st (fun vs => vs.length ≤ sizeLine ∧ Q (.tup vs)) X) := rfl
@[local simp] theorem we_14 {C} {a} {c} {st} {Q} {X} : WE C (.cmp a c) st Q X = (WE C a st (fun u => WCh C c st u (fun b => Q (.bool b)) X) X) := rfl
@[local simp] theorem we_15 {C} {a} {i} {st} {Q} {X} : WE C (.sub a i) st Q X = (WE C a st (fun u => WE C i st (fun k => subV st.H u k Q) X) X) := rfl
@[local simp] theorem we_16 {C} {a} {lo} {hi} {st} {Q} {X} : WE C (.slice a lo hi) st Q X = (WE C a st (fun u => WE C lo st (fun l => WE C hi st (fun h => sliceV st.H u l h Q) X) X) X) := rfl
@[local simp] theorem we_17 {C} {f} {args} {st} {Q} {X} : WE C (.call f args) st Q X = (WEs C args st (fun vs => C.call f vs st.H Q X) X) := rfl
@[local simp] theorem we_18 {C} {a} {t} {st} {Q} {X} : WE C (.isinst a t) st Q X = (WE C a st (fun u => match isT st.H t u with
    | some b => Q (.bool b)
    | Option.none => False) X) := rfl
@[local simp] theorem we_19 {C} {a} {st} {Q} {X} : WE C (.len a) st Q X = (WE C a st (fun u => match sizeV st.H u with
    | some n => Q (.int n)
    | Option.none => False) X) := rfl
@[local simp] theorem we_20 {C} {a} {st} {Q} {X} : WE C (.sum a) st Q X = (WE C a st (fun u => sum1 st.H [u] fun n => Q (.int n)) X) := rfl
@[local simp] theorem we_21 {C} {a} {b} {st} {Q} {X} : WE C (.max2 a b) st Q X = (WE C a st (fun u => WE C b st (fun v => int2 [u, v] fun i j => Q (.int (if j > i then j else i))) X) X) := rfl
@[local simp] theorem we_22 {C} {a} {b} {st} {Q} {X} : WE C (.min2 a b) st Q X = (WE C a st (fun u => WE C b st (fun v => int2 [u, v] fun i j => Q (.int (if j < i then j else i))) X) X) := rfl
@[local simp] theorem we_23 {C} {a} {st} {Q} {X} : WE C (.maxl a) st Q X = (WE C a st (fun u => max1 st.H [u] fun n => Q (.int n)) X) := rfl
@[local simp] theorem we_24 {C} {a} {d} {st} {Q} {X} : WE C (.maxd a d) st Q X = (WE C a st (fun u => WE C d st (fun v => maxD st.H u v Q) X) X) := rfl
@[local simp] theorem we_25 {C} {a} {st} {Q} {X} : WE C (.strOf a) st Q X = (WE C a st (fun u => intP u fun i => i.natAbs < 2 ^ 62 ∧ Q (.str (Str.ofString (toString i)))) X) := rfl
@[local simp] theorem we_26 {C} {a} {st} {Q} {X} : WE C (.intOf a) st Q X = (WE C a st (fun u => intOfV u Q) X) := rfl
@[local simp] theorem we_27 {C} {a} {st} {Q} {X} : WE C (.tupOf a) st Q X = (WE C a st (fun u => seqP st.H u fun vs => Q (.tup vs)) X) := rfl
@[local simp] theorem we_28 {C} {it} {st} {Q} {X} : WE C (.listOf it) st Q X = (WI C it st (fun vs _ => vs.length ≤ sizeLine ∧ Q (.lst vs)) X) := rfl
@[local simp] theorem we_29 {C} {s} {a} {st} {Q} {X} : WE C (.join s a) st Q X = (WE C s st (fun u => WE C a st (fun v => match u, (seqL st.H v).bind strsOf with
    | .str s, some ss => lenAll ss + s.length * ss.length ≤ sizeLine ∧ Q (.str (Str.join s ss))
    | _, _ => False) X) X) := rfl
@[local simp] theorem we_30 {C} {d} {k} {v} {st} {Q} {X} : WE C (.get d k v) st Q X = (WE C d st (fun u => dictP st.H u fun _ kvs => WE C k st (fun kk => WE C v st (fun w => keyP kk fun ks => Q ((dlook ks kvs).getD w)) X) X) X) := rfl
@[local simp] theorem we_31 {C} {u1} {Q} {u3} : WE C (.dict0) u1 Q u3 = (Q .dct) := rfl
@[local simp] theorem we_32 {C} {a} {n} {st} {Q} {X} : WE C (.attr a n) st Q X = (WE C a st (fun u => match u with
    | .inst c ns vs => C.has c ns = true ∧ (match attrL n ns vs with
      | some v => Q v
      | Option.none => False)
    | .iref c ns ad => (match st.H ad with
      | some (.inst c' ns' vs) => C.has c ns = true ∧ c' = c ∧ ns' = ns ∧ (match attrL n ns vs with
        | some v => Q v
        | Option.none => False)
      | _ => False)
    | _ => False) X) := rfl
@[local simp] theorem we_33 {C} {c} {args} {st} {Q} {X} : WE C (.new c args) st Q X = ((match C.cls c with
    | some (k, n, fs) => WEs C args st (fun vs => vs.length = n ∧ Q (.inst k (fs.map (·.1)) (fs.map fun f => iniV vs f.2))) X
    | Option.none => False)) := rfl
@[local simp] theorem we_34 {C} {elt} {t} {it} {st} {Q} {X} : WE C (.comp elt t it) st Q X = (WI C it st (fun xs _ => xs.length ≤ sizeLine ∧
      compL (fun x k => match bindT t x st.ρ with
        | some ρ' => WE C elt { st with ρ := ρ' } (fun y => k (some y)) (fun _ => False)
        | Option.none => False) xs (fun ys => Q (.lst ys))) X) := rfl
@[local simp] theorem we_35 {C} {elt} {t} {it} {c} {st} {Q} {X} : WE C (.compIf elt t it c) st Q X = (WI C it st (fun xs _ => xs.length ≤ sizeLine ∧
      compL (fun x k => match bindT t x st.ρ with
        | some ρ' => WE C c { st with ρ := ρ' } (fun u => match truthV st.H u with
          | some true => WE C elt { st with ρ := ρ' } (fun y => k (some y)) (fun _ => False)
          | some false => k Option.none
          | Option.none => False) (fun _ => False)
        | Option.none => False) xs (fun ys => Q (.lst ys))) X) := rfl
@[local simp] theorem we_36 {C} {a} {t} {st} {Q} {X} : WE C (.isexc a t) st Q X = (WE C a st (fun u => match u with
    | .exc c => allX.contains c = true ∧ Q (.bool (subX c t))
    | _ => False) X) := rfl
@[local simp] theorem we_37 {C} {a} {st} {u2} {X} : WE C (.only a) st u2 X = (WE C a st (fun _ => False) X) := rfl
@[local simp] theorem wes_0 {C} {u1} {Q} {u3} : WEs C (.nil) u1 Q u3 = (Q []) := rfl
@[local simp] theorem wes_1 {C} {e} {es} {st} {Q} {X} : WEs C (.cons e es) st Q X = (WE C e st (fun v => WEs C es st (fun vs => Q (v :: vs)) X) X) := rfl
@[local simp] theorem wch_0 {C} {op} {e} {st} {u} {Q} {X} : WCh C (.one op e) st u Q X = (WE C e st (fun v => cmpV st.H op u v Q) X) := rfl
@[local simp] theorem wch_1 {C} {op} {e} {c} {st} {u} {Q} {X} : WCh C (.more op e c) st u Q X = (WE C e st (fun v => cmpV st.H op u v (fun b => if b then WCh C c st v Q X else Q false)) X) := rfl
@[local simp] theorem wi_0 {C} {e} {st} {Q} {X} : WI C (.seq e) st Q X = (WE C e st (fun u => match itemsV st.H u with
    | some vs => Q vs (depsV u)
    | Option.none => False) X) := rfl
@[local simp] theorem wi_1 {C} {e} {st} {Q} {X} : WI C (.rev e) st Q X = (WE C e st (fun u => match seqL st.H u with
    | some vs => Q vs.reverse (depsV u)
    | Option.none => False) X) := rfl
@[local simp] theorem wi_2 {C} {n} {st} {Q} {X} : WI C (.range1 n) st Q X = (WE C n st (fun u => rng1 [u] fun i => Q (upL 0 i) []) X) := rfl
@[local simp] theorem wi_3 {C} {a} {b} {st} {Q} {X} : WI C (.range2 a b) st Q X = (WE C a st (fun u => WE C b st (fun v => rng2 [u, v] fun i j => Q (upL i j) []) X) X) := rfl
@[local simp] theorem wi_4 {C} {a} {b} {c} {st} {Q} {X} : WI C (.range3 a b c) st Q X = (WE C a st (fun u => WE C b st (fun v => WE C c st (fun w => rng3 [u, v, w] fun i j k => k = -1 ∧ Q (downL i j) []) X) X) X) := rfl
@[local simp] theorem wi_5 {C} {e} {st} {Q} {X} : WI C (.enum e) st Q X = (WE C e st (fun u => rowP st.H u fun vs => Q (enumL 0 vs) (depsV u)) X) := rfl
@[local simp] theorem wi_6 {C} {a} {b} {st} {Q} {X} : WI C (.zip a b) st Q X = (WE C a st (fun u => WE C b st (fun v => rowP st.H u fun xs => rowP st.H v fun ys => Q (zipL xs ys) (depsV u ++ depsV v)) X) X) := rfl
@[local simp] theorem wi_7 {C} {e} {st} {Q} {X} : WI C (.keys e) st Q X = (WE C e st (fun u => dictP st.H u fun a kvs => Q (kvs.map fun p => keyV p.1) [a]) X) := rfl
@[local simp] theorem wa_0 {C} {e} {st} {Q} {X} : WA C (.pure e) st Q X = (WE C e st (fun v => Q v st.H) X) := rfl
@[local simp] theorem wa_1 {C} {e} {st} {Q} {X} : WA C (.thaw e) st Q X = (WE C e st (fun v => match v with
    | .lst vs => ∀ a, freshAt st a → Q (.ref a) (st.H.upd a (.list vs))
    | _ => False) X) := rfl
@[local simp] theorem wa_2 {C} {as} {st} {Q} {X} : WA C (.list as) st Q X = (WAs C as st (fun vs H' => vs.length ≤ sizeLine ∧ ∀ a, H' a = Option.none → st.B a = Option.none → Q (.ref a) (H'.upd a (.list vs))) X) := rfl
@[local simp] theorem wa_3 {C} {st} {Q} {u3} : WA C (.dict) st Q u3 = (∀ a, freshAt st a → Q (.ref a) (st.H.upd a (.dict []))) := rfl
@[local simp] theorem wa_4 {C} {c} {args} {st} {Q} {X} : WA C (.new c args) st Q X = ((match C.cls c with
    | some (k, n, fs) => WEs C args st (fun vs => vs.length = n ∧ ∀ a, freshAt st a → Q (.iref k (fs.map (·.1)) a) (st.H.upd a (.inst k (fs.map (·.1)) (fs.map fun f => iniV vs f.2)))) X
    | Option.none => False)) := rfl
@[local simp] theorem wa_5 {C} {f} {args} {st} {Q} {X} : WA C (.callO f args) st Q X = (WEs C args st (fun vs => C.callO f vs st.H (fun ws => ∀ a, freshAt st a → Q (.ref a) (st.H.upd a (.list ws))) X) X) := rfl
@[local simp] theorem was_0 {C} {st} {Q} {u3} : WAs C (.nil) st Q u3 = (Q [] st.H) := rfl
@[local simp] theorem was_1 {C} {a} {as} {st} {Q} {X} : WAs C (.cons a as) st Q X = (WA C a st (fun v H' => WAs C as { st with H := H' } (fun vs H'' => Q (v :: vs) H'') X) X) := rfl
@[local simp] theorem ws_0 {C} {e} {st} {Q} {X} : WS C (.expr e) st Q X = (WE C e st (fun _ => Q .next st) (fun x => X x st)) := rfl
@[local simp] theorem ws_1 {C} {t} {e} {st} {Q} {X} : WS C (.assign t e) st Q X = (WE C e st (fun v => match bindT t v st.ρ with
    | some ρ' => Q .next { st with ρ := ρ' }
    | Option.none => False) (fun x => X x st)) := rfl
@[local simp] theorem ws_2 {C} {i} {a} {st} {Q} {X} : WS C (.own i a) st Q X = (WA C a st (fun v H' => match putV i v st.ρ with
    | some ρ' => Q .next { st with ρ := ρ', H := H' }
    | Option.none => False) (fun x => X x st)) := rfl
@[local simp] theorem ws_3 {C} {e} {a} {st} {Q} {X} : WS C (.append e a) st Q X = (WE C e st (fun v => match v with
    | .ref ad => (match st.H ad with
      | some (.list _) => WA C a st (fun w H' => match H' ad with
        | some (.list vs) => st.B ad = Option.none ∧ vs.length < sizeLine ∧ Q .next { st with H := H'.upd ad (.list (vs ++ [w])) }
        | _ => False) (fun x => X x st)
      | _ => False)
    | _ => False) (fun x => X x st)) := rfl
@[local simp] theorem ws_4 {C} {t} {e} {st} {Q} {X} : WS C (.pop t e) st Q X = (WE C e st (fun v => match v with
    | .ref ad => (match st.H ad with
      | some (.list vs) => (match vs.getLast? with
        | some w => st.B ad = Option.none ∧ (match bindT t w st.ρ with
          | some ρ' => Q .next { st with ρ := ρ', H := st.H.upd ad (.list vs.dropLast) }
          | Option.none => False)
        | Option.none => False)
      | _ => False)
    | _ => False) (fun x => X x st)) := rfl
@[local simp] theorem ws_5 {C} {e} {k} {v} {st} {Q} {X} : WS C (.setitem e k v) st Q X = (WE C v st (fun w => WE C e st (fun u => WE C k st (fun kk => setV st.H st.B u kk fun ad vs n => Q .next { st with H := st.H.upd ad (.list (vs.set n w)) }) (fun x => X x st)) (fun x => X x st)) (fun x => X x st)) := rfl
@[local simp] theorem ws_6 {C} {e} {k} {v} {st} {Q} {X} : WS C (.setkey e k v) st Q X = (WE C v st (fun w => WE C e st (fun u => WE C k st (fun kk => dictP st.H u fun ad kvs => keyP kk fun ks => st.B ad = Option.none ∧ kvs.length < sizeLine ∧ Q .next { st with H := st.H.upd ad (.dict (dput ks w kvs)) }) (fun x => X x st)) (fun x => X x st)) (fun x => X x st)) := rfl
@[local simp] theorem ws_7 {C} {e} {n} {v} {st} {Q} {X} : WS C (.setattr e n v) st Q X = (WE C v st (fun w => WE C e st (fun u => match u with
    | .iref c' ns' ad => st.B ad = Option.none ∧ (match st.H ad with
      | some (.inst c ns vs) => C.has c ns = true ∧ c = c' ∧ ns = ns' ∧ (match setAttrL n w ns vs with
        | some vs' => Q .next { st with H := st.H.upd ad (.inst c ns vs') }
        | Option.none => False)
      | _ => False)
    | _ => False) (fun x => X x st)) (fun x => X x st)) := rfl
@[local simp] theorem ws_8 {C} {e} {v} {st} {Q} {X} : WS C (.setlast e v) st Q X = (WE C v st (fun w => WE C e st (fun u => match u with
    | .ref ad => st.B ad = Option.none ∧ (match st.H ad with
      | some (.list vs) => vs ≠ [] ∧ Q .next { st with H := st.H.upd ad (.list (vs.set (vs.length - 1) w)) }
      | _ => False)
    | _ => False) (fun x => X x st)) (fun x => X x st)) := rfl
@[local simp] theorem ws_9 {C} {t} {a} {b} {st} {Q} {X} : WS C (.ite t a b) st Q X = (WE C t st (fun u => match truthV st.H u with
    | some true => WB C a st Q X
    | some false => WB C b st Q X
    | Option.none => False) (fun x => X x st)) := rfl
@[local simp] theorem ws_10 {C} {t} {b} {st} {Q} {X} : WS C (.while t b) st Q X = (∃ n, whileN (fun st' K => WE C t st' (fun u => match truthV st'.H u with
      | some r => K r
      | Option.none => False) (fun x => X x st')) (fun st' K => WB C b st' K X) Q n st) := rfl
@[local simp] theorem ws_11 {C} {t} {it} {b} {st} {Q} {X} : WS C (.for t it b) st Q X = (WI C it st (fun xs ds => (quietB b = true ∨ ∀ a ∈ ds, st.B a ≠ Option.none) ∧ forL t (fun st' K => WB C b st' K X) Q xs st) (fun x => X x st)) := rfl
@[local simp] theorem ws_12 {C} {e} {st} {Q} {X} : WS C (.ret e) st Q X = (WE C e st (fun v => Q (.ret v) st) (fun x => X x st)) := rfl
@[local simp] theorem ws_13 {C} {e} {st} {Q} {X} : WS C (.retO e) st Q X = (WE C e st (fun v => match v with
    | .lst vs => ∀ a, freshAt st a → Q (.ret (.ref a)) { st with H := st.H.upd a (.list vs) }
    | _ => False) (fun x => X x st)) := rfl
@[local simp] theorem ws_14 {C} {w0_7} {w0_9} {u1} {u2} {u3} : WS C (.raise w0_7 w0_9) u1 u2 u3 = (False) := rfl
@[local simp] theorem ws_15 {C} {c} {m} {st} {u2} {X} : WS C (.rz c m) st u2 X = (WE C m st (fun _ => X c st) (fun x => X x st)) := rfl
@[local simp] theorem ws_16 {C} {e} {cl} {x} {h} {st} {Q} {X} : WS C (.tryEx e cl x h) st Q X = (WE C e st (fun _ => Q .next st) (fun c => subX c cl = true ∧ (match x with
    | Option.none => WB C h st Q (fun _ _ => False)
    | some i => i < st.ρ.length ∧ WB C h { st with ρ := st.ρ.set i (some (.exc c)) } (fun f st' => Q f { st' with ρ := st'.ρ.set i Option.none }) (fun _ _ => False)))) := rfl
theorem wb_0 {C} {st} {Q} {u3} : WB C (.nil) st Q u3 = (Q .next st) := rfl
theorem wb_1 {C} {s} {b} {st} {Q} {X} : WB C (.cons s b) st Q X = (WS C s st (fun f st' => match f with
    | .next => WB C b st' Q X
    | f => Q f st') X) := rfl
@[local simp] theorem tv_none {H : AH}  : truthV H .none = Option.none := rfl
@[local simp] theorem tv_bool {H : AH} {b : Bool} : truthV H (.bool b) = some b := rfl
@[local simp] theorem tv_int {H : AH} {i : Int} : truthV H (.int i) = Option.none := rfl
@[local simp] theorem tv_str {H : AH} {s : Str} : truthV H (.str s) = Option.none := rfl
@[local simp] theorem tv_tup {H : AH} {vs : List V} : truthV H (.tup vs) = Option.none := rfl
@[local simp] theorem tv_lst {H : AH} {vs : List V} : truthV H (.lst vs) = Option.none := rfl
@[local simp] theorem tv_ref {H : AH} {a : Nat} : truthV H (.ref a) = Option.none := rfl
@[local simp] theorem tv_inst {H : AH} {c : Nat} {ns : List String} {vs : List V} : truthV H (.inst c ns vs) = Option.none := rfl
@[local simp] theorem tv_iref {H : AH} {c : Nat} {ns : List String} {a : Nat} : truthV H (.iref c ns a) = Option.none := rfl
@[local simp] theorem tv_exc {H : AH} {c : String} : truthV H (.exc c) = Option.none := rfl
@[local simp] theorem tv_dct {H : AH}  : truthV H .dct = Option.none := rfl
@[local simp] theorem iv_none {H : AH}  : itemsV H .none = Option.none := rfl
@[local simp] theorem iv_bool {H : AH} {b : Bool} : itemsV H (.bool b) = Option.none := rfl
@[local simp] theorem iv_int {H : AH} {i : Int} : itemsV H (.int i) = Option.none := rfl
@[local simp] theorem iv_str {H : AH} {s : Str} : itemsV H (.str s) = some (signsOf s) := rfl
@[local simp] theorem iv_tup {H : AH} {vs : List V} : itemsV H (.tup vs) = some vs := rfl
@[local simp] theorem iv_lst {H : AH} {vs : List V} : itemsV H (.lst vs) = some vs := rfl
@[local simp] theorem iv_ref {H : AH} {a : Nat} : itemsV H (.ref a) = (match H a with
    | some (.list vs) => some vs
    | _ => Option.none) := rfl
@[local simp] theorem iv_inst {H : AH} {c : Nat} {ns : List String} {vs : List V} : itemsV H (.inst c ns vs) = Option.none := rfl
@[local simp] theorem iv_iref {H : AH} {c : Nat} {ns : List String} {a : Nat} : itemsV H (.iref c ns a) = Option.none := rfl
@[local simp] theorem iv_exc {H : AH} {c : String} : itemsV H (.exc c) = Option.none := rfl
@[local simp] theorem iv_dct {H : AH}  : itemsV H .dct = Option.none := rfl
@[local simp] theorem sq_none {H : AH}  : seqL H .none = Option.none := rfl
@[local simp] theorem sq_bool {H : AH} {b : Bool} : seqL H (.bool b) = Option.none := rfl
@[local simp] theorem sq_int {H : AH} {i : Int} : seqL H (.int i) = Option.none := rfl
@[local simp] theorem sq_str {H : AH} {s : Str} : seqL H (.str s) = Option.none := rfl
@[local simp] theorem sq_tup {H : AH} {vs : List V} : seqL H (.tup vs) = Option.none := rfl
@[local simp] theorem sq_lst {H : AH} {vs : List V} : seqL H (.lst vs) = some vs := rfl
@[local simp] theorem sq_ref {H : AH} {a : Nat} : seqL H (.ref a) = (match H a with
    | some (.list vs) => some vs
    | _ => Option.none) := rfl
@[local simp] theorem sq_inst {H : AH} {c : Nat} {ns : List String} {vs : List V} : seqL H (.inst c ns vs) = Option.none := rfl
@[local simp] theorem sq_iref {H : AH} {c : Nat} {ns : List String} {a : Nat} : seqL H (.iref c ns a) = Option.none := rfl
@[local simp] theorem sq_exc {H : AH} {c : String} : seqL H (.exc c) = Option.none := rfl
@[local simp] theorem sq_dct {H : AH}  : seqL H .dct = Option.none := rfl
@[local simp] theorem zv_none {H : AH}  : sizeV H .none = Option.none := rfl
@[local simp] theorem zv_bool {H : AH} {b : Bool} : sizeV H (.bool b) = Option.none := rfl
@[local simp] theorem zv_int {H : AH} {i : Int} : sizeV H (.int i) = Option.none := rfl
@[local simp] theorem zv_str {H : AH} {s : Str} : sizeV H (.str s) = some s.length := rfl
@[local simp] theorem zv_tup {H : AH} {vs : List V} : sizeV H (.tup vs) = some vs.length := rfl
@[local simp] theorem zv_lst {H : AH} {vs : List V} : sizeV H (.lst vs) = some vs.length := rfl
@[local simp] theorem zv_ref {H : AH} {a : Nat} : sizeV H (.ref a) = (match H a with
    | some (.list vs) => some vs.length
    | _ => Option.none) := rfl
@[local simp] theorem zv_inst {H : AH} {c : Nat} {ns : List String} {vs : List V} : sizeV H (.inst c ns vs) = Option.none := rfl
@[local simp] theorem zv_iref {H : AH} {c : Nat} {ns : List String} {a : Nat} : sizeV H (.iref c ns a) = Option.none := rfl
@[local simp] theorem zv_exc {H : AH} {c : String} : sizeV H (.exc c) = Option.none := rfl
@[local simp] theorem zv_dct {H : AH}  : sizeV H .dct = Option.none := rfl
@[local simp] theorem dv_none   : depsV .none = [] := rfl
@[local simp] theorem dv_bool  {b : Bool} : depsV (.bool b) = [] := rfl
@[local simp] theorem dv_int  {i : Int} : depsV (.int i) = [] := rfl
@[local simp] theorem dv_str  {s : Str} : depsV (.str s) = [] := rfl
@[local simp] theorem dv_tup  {vs : List V} : depsV (.tup vs) = [] := rfl
@[local simp] theorem dv_lst  {vs : List V} : depsV (.lst vs) = [] := rfl
@[local simp] theorem dv_ref  {a : Nat} : depsV (.ref a) = [a] := rfl
@[local simp] theorem dv_inst  {c : Nat} {ns : List String} {vs : List V} : depsV (.inst c ns vs) = [] := rfl
@[local simp] theorem dv_iref  {c : Nat} {ns : List String} {a : Nat} : depsV (.iref c ns a) = [] := rfl
@[local simp] theorem dv_exc  {c : String} : depsV (.exc c) = [] := rfl
@[local simp] theorem dv_dct   : depsV .dct = [] := rfl
theorem rv_none {H : AH}  : resV H .none = .none := rfl
theorem rv_bool {H : AH} {b : Bool} : resV H (.bool b) = (.bool b) := rfl
theorem rv_int {H : AH} {i : Int} : resV H (.int i) = (.int i) := rfl
theorem rv_str {H : AH} {s : Str} : resV H (.str s) = (.str s) := rfl
theorem rv_tup {H : AH} {vs : List V} : resV H (.tup vs) = (.tup vs) := rfl
theorem rv_lst {H : AH} {vs : List V} : resV H (.lst vs) = (.lst vs) := rfl
theorem rv_ref {H : AH} {a : Nat} : resV H (.ref a) = (match H a with
    | some (.list vs) => .lst vs
    | _ => .ref a) := rfl
theorem rv_inst {H : AH} {c : Nat} {ns : List String} {vs : List V} : resV H (.inst c ns vs) = (.inst c ns vs) := rfl
theorem rv_iref {H : AH} {c : Nat} {ns : List String} {a : Nat} : resV H (.iref c ns a) = (.iref c ns a) := rfl
theorem rv_exc {H : AH} {c : String} : resV H (.exc c) = (.exc c) := rfl
theorem rv_dct {H : AH}  : resV H .dct = .dct := rfl
theorem td_none   : toD .none = some .none := rfl
theorem td_bool  {b : Bool} : toD (.bool b) = some (.bool b) := rfl
theorem td_int  {i : Int} : toD (.int i) = some (.int i) := rfl
theorem td_str  {s : Str} : toD (.str s) = some (.str s) := rfl
theorem td_tup  {vs : List V} : toD (.tup vs) = (toDs vs).map .tuple := rfl
theorem td_lst  {vs : List V} : toD (.lst vs) = (toDs vs).map .list := rfl
theorem td_ref  {a : Nat} : toD (.ref a) = Option.none := rfl
theorem td_inst  {c : Nat} {ns : List String} {vs : List V} : toD (.inst c ns vs) = Option.none := rfl
theorem td_iref  {c : Nat} {ns : List String} {a : Nat} : toD (.iref c ns a) = Option.none := rfl
theorem td_exc  {c : String} : toD (.exc c) = Option.none := rfl
theorem td_dct   : toD .dct = Option.none := rfl
theorem tds_nil  : toDs [] = some [] := rfl
theorem tds_cons {v : V} {vs : List V} : toDs (v :: vs) = (match toD v, toDs vs with
    | some d, some ds => some (d :: ds)
    | _, _ => Option.none) := rfl
@[local simp] theorem ist_none {H : AH} {t : Ty}  : isT H t .none = isV t .none := rfl
@[local simp] theorem ist_bool {H : AH} {t : Ty} {b : Bool} : isT H t (.bool b) = isV t (.bool b) := rfl
@[local simp] theorem ist_int {H : AH} {t : Ty} {i : Int} : isT H t (.int i) = isV t (.int i) := rfl
@[local simp] theorem ist_str {H : AH} {t : Ty} {s : Str} : isT H t (.str s) = isV t (.str s) := rfl
@[local simp] theorem ist_tup {H : AH} {t : Ty} {vs : List V} : isT H t (.tup vs) = isV t (.tup vs) := rfl
@[local simp] theorem ist_lst {H : AH} {t : Ty} {vs : List V} : isT H t (.lst vs) = isV t (.lst vs) := rfl
@[local simp] theorem ist_ref {H : AH} {t : Ty} {a : Nat} : isT H t (.ref a) = (match H a with
    | some (.list _) => isV t (.lst [])
    | _ => Option.none) := rfl
@[local simp] theorem ist_inst {H : AH} {t : Ty} {c : Nat} {ns : List String} {vs : List V} : isT H t (.inst c ns vs) = isV t (.inst c ns vs) := rfl
@[local simp] theorem ist_iref {H : AH} {t : Ty} {c : Nat} {ns : List String} {a : Nat} : isT H t (.iref c ns a) = isV t (.iref c ns a) := rfl
@[local simp] theorem ist_exc {H : AH} {t : Ty} {c : String} : isT H t (.exc c) = isV t (.exc c) := rfl
@[local simp] theorem ist_dct {H : AH} {t : Ty}  : isT H t .dct = isV t .dct := rfl
@[local simp] theorem isv_int_none  : isV .int .none = some false := rfl
@[local simp] theorem isv_int_bool {b : Bool} : isV .int (.bool b) = some true := rfl
@[local simp] theorem isv_int_int {i : Int} : isV .int (.int i) = some true := rfl
@[local simp] theorem isv_int_str {s : Str} : isV .int (.str s) = some false := rfl
@[local simp] theorem isv_int_tup {vs : List V} : isV .int (.tup vs) = some false := rfl
@[local simp] theorem isv_int_lst {vs : List V} : isV .int (.lst vs) = some false := rfl
@[local simp] theorem isv_int_ref {a : Nat} : isV .int (.ref a) = Option.none := rfl
@[local simp] theorem isv_int_inst {c : Nat} {ns : List String} {vs : List V} : isV .int (.inst c ns vs) = Option.none := rfl
@[local simp] theorem isv_int_iref {c : Nat} {ns : List String} {a : Nat} : isV .int (.iref c ns a) = Option.none := rfl
@[local simp] theorem isv_int_exc {c : String} : isV .int (.exc c) = Option.none := rfl
@[local simp] theorem isv_int_dct  : isV .int .dct = some false := rfl
@[local simp] theorem isv_bool_none  : isV .bool .none = some false := rfl
@[local simp] theorem isv_bool_bool {b : Bool} : isV .bool (.bool b) = some true := rfl
@[local simp] theorem isv_bool_int {i : Int} : isV .bool (.int i) = some false := rfl
@[local simp] theorem isv_bool_str {s : Str} : isV .bool (.str s) = some false := rfl
@[local simp] theorem isv_bool_tup {vs : List V} : isV .bool (.tup vs) = some false := rfl
@[local simp] theorem isv_bool_lst {vs : List V} : isV .bool (.lst vs) = some false := rfl
@[local simp] theorem isv_bool_ref {a : Nat} : isV .bool (.ref a) = Option.none := rfl
@[local simp] theorem isv_bool_inst {c : Nat} {ns : List String} {vs : List V} : isV .bool (.inst c ns vs) = Option.none := rfl
@[local simp] theorem isv_bool_iref {c : Nat} {ns : List String} {a : Nat} : isV .bool (.iref c ns a) = Option.none := rfl
@[local simp] theorem isv_bool_exc {c : String} : isV .bool (.exc c) = Option.none := rfl
@[local simp] theorem isv_bool_dct  : isV .bool .dct = some false := rfl
@[local simp] theorem isv_str_none  : isV .str .none = some false := rfl
@[local simp] theorem isv_str_bool {b : Bool} : isV .str (.bool b) = some false := rfl
@[local simp] theorem isv_str_int {i : Int} : isV .str (.int i) = some false := rfl
@[local simp] theorem isv_str_str {s : Str} : isV .str (.str s) = some true := rfl
@[local simp] theorem isv_str_tup {vs : List V} : isV .str (.tup vs) = some false := rfl
@[local simp] theorem isv_str_lst {vs : List V} : isV .str (.lst vs) = some false := rfl
@[local simp] theorem isv_str_ref {a : Nat} : isV .str (.ref a) = Option.none := rfl
@[local simp] theorem isv_str_inst {c : Nat} {ns : List String} {vs : List V} : isV .str (.inst c ns vs) = Option.none := rfl
@[local simp] theorem isv_str_iref {c : Nat} {ns : List String} {a : Nat} : isV .str (.iref c ns a) = Option.none := rfl
@[local simp] theorem isv_str_exc {c : String} : isV .str (.exc c) = Option.none := rfl
@[local simp] theorem isv_str_dct  : isV .str .dct = some false := rfl
@[local simp] theorem isv_tuple_none  : isV .tuple .none = some false := rfl
@[local simp] theorem isv_tuple_bool {b : Bool} : isV .tuple (.bool b) = some false := rfl
@[local simp] theorem isv_tuple_int {i : Int} : isV .tuple (.int i) = some false := rfl
@[local simp] theorem isv_tuple_str {s : Str} : isV .tuple (.str s) = some false := rfl
@[local simp] theorem isv_tuple_tup {vs : List V} : isV .tuple (.tup vs) = some true := rfl
@[local simp] theorem isv_tuple_lst {vs : List V} : isV .tuple (.lst vs) = some false := rfl
@[local simp] theorem isv_tuple_ref {a : Nat} : isV .tuple (.ref a) = Option.none := rfl
@[local simp] theorem isv_tuple_inst {c : Nat} {ns : List String} {vs : List V} : isV .tuple (.inst c ns vs) = Option.none := rfl
@[local simp] theorem isv_tuple_iref {c : Nat} {ns : List String} {a : Nat} : isV .tuple (.iref c ns a) = Option.none := rfl
@[local simp] theorem isv_tuple_exc {c : String} : isV .tuple (.exc c) = Option.none := rfl
@[local simp] theorem isv_tuple_dct  : isV .tuple .dct = some false := rfl
@[local simp] theorem isv_list_none  : isV .list .none = some false := rfl
@[local simp] theorem isv_list_bool {b : Bool} : isV .list (.bool b) = some false := rfl
@[local simp] theorem isv_list_int {i : Int} : isV .list (.int i) = some false := rfl
@[local simp] theorem isv_list_str {s : Str} : isV .list (.str s) = some false := rfl
@[local simp] theorem isv_list_tup {vs : List V} : isV .list (.tup vs) = some false := rfl
@[local simp] theorem isv_list_lst {vs : List V} : isV .list (.lst vs) = some true := rfl
@[local simp] theorem isv_list_ref {a : Nat} : isV .list (.ref a) = Option.none := rfl
@[local simp] theorem isv_list_inst {c : Nat} {ns : List String} {vs : List V} : isV .list (.inst c ns vs) = Option.none := rfl
@[local simp] theorem isv_list_iref {c : Nat} {ns : List String} {a : Nat} : isV .list (.iref c ns a) = Option.none := rfl
@[local simp] theorem isv_list_exc {c : String} : isV .list (.exc c) = Option.none := rfl
@[local simp] theorem isv_list_dct  : isV .list .dct = some false := rfl
theorem isv_own_none {cc : String}  : isV (.own cc) .none = Option.none := rfl
theorem isv_ve_none  : isV .ValueError .none = Option.none := rfl
theorem isv_own_bool {cc : String} {b : Bool} : isV (.own cc) (.bool b) = Option.none := rfl
theorem isv_ve_bool {b : Bool} : isV .ValueError (.bool b) = Option.none := rfl
theorem isv_own_int {cc : String} {i : Int} : isV (.own cc) (.int i) = Option.none := rfl
theorem isv_ve_int {i : Int} : isV .ValueError (.int i) = Option.none := rfl
theorem isv_own_str {cc : String} {s : Str} : isV (.own cc) (.str s) = Option.none := rfl
theorem isv_ve_str {s : Str} : isV .ValueError (.str s) = Option.none := rfl
theorem isv_own_tup {cc : String} {vs : List V} : isV (.own cc) (.tup vs) = Option.none := rfl
theorem isv_ve_tup {vs : List V} : isV .ValueError (.tup vs) = Option.none := rfl
theorem isv_own_lst {cc : String} {vs : List V} : isV (.own cc) (.lst vs) = Option.none := rfl
theorem isv_ve_lst {vs : List V} : isV .ValueError (.lst vs) = Option.none := rfl
theorem isv_own_ref {cc : String} {a : Nat} : isV (.own cc) (.ref a) = Option.none := rfl
theorem isv_ve_ref {a : Nat} : isV .ValueError (.ref a) = Option.none := rfl
theorem isv_own_inst {cc : String} {c : Nat} {ns : List String} {vs : List V} : isV (.own cc) (.inst c ns vs) = Option.none := rfl
theorem isv_ve_inst {c : Nat} {ns : List String} {vs : List V} : isV .ValueError (.inst c ns vs) = Option.none := rfl
theorem isv_own_iref {cc : String} {c : Nat} {ns : List String} {a : Nat} : isV (.own cc) (.iref c ns a) = Option.none := rfl
theorem isv_ve_iref {c : Nat} {ns : List String} {a : Nat} : isV .ValueError (.iref c ns a) = Option.none := rfl
theorem isv_own_exc {cc : String} {c : String} : isV (.own cc) (.exc c) = Option.none := rfl
theorem isv_ve_exc {c : String} : isV .ValueError (.exc c) = Option.none := rfl
theorem isv_own_dct {cc : String}  : isV (.own cc) .dct = Option.none := rfl
theorem isv_ve_dct  : isV .ValueError .dct = Option.none := rfl
@[local simp] theorem fz_zero {H B : AH} {v : V} : frz H B 0 v = Option.none := rfl
@[local simp] theorem fz_none {H B : AH} {n : Nat}  : frz H B (n + 1) .none = some .none := rfl
@[local simp] theorem fz_bool {H B : AH} {n : Nat} {b : Bool} : frz H B (n + 1) (.bool b) = some (.bool b) := rfl
@[local simp] theorem fz_int {H B : AH} {n : Nat} {i : Int} : frz H B (n + 1) (.int i) = some (.int i) := rfl
@[local simp] theorem fz_str {H B : AH} {n : Nat} {s : Str} : frz H B (n + 1) (.str s) = some (.str s) := rfl
@[local simp] theorem fz_tup {H B : AH} {n : Nat} {vs : List V} : frz H B (n + 1) (.tup vs) = (frzs H B n vs).map .tup := rfl
@[local simp] theorem fz_lst {H B : AH} {n : Nat} {vs : List V} : frz H B (n + 1) (.lst vs) = (frzs H B n vs).map .lst := rfl
@[local simp] theorem fz_inst {H B : AH} {n : Nat} {c : Nat} {ns : List String} {vs : List V} : frz H B (n + 1) (.inst c ns vs) = (frzs H B n vs).map (.inst c ns) := rfl
@[local simp] theorem fz_ref {H B : AH} {n : Nat} {a : Nat} : frz H B (n + 1) (.ref a) = (match B a with
      | some _ => some (.ref a)
      | Option.none => (match H a with
        | some (.list vs) => (frzs H B n vs).map .lst
        | _ => Option.none)) := rfl
@[local simp] theorem fz_iref {H B : AH} {n : Nat} {c : Nat} {ns : List String} {a : Nat} : frz H B (n + 1) (.iref c ns a) = (match B a with
      | some _ => some (.iref c ns a)
      | Option.none => (match H a with
        | some (.inst _ ns' vs) => if ns' = ns then (frzs H B n vs).map (.inst c ns) else Option.none
        | _ => Option.none)) := rfl
@[local simp] theorem fzs_nil {H B : AH} {n : Nat} : frzs H B n [] = some [] := rfl
@[local simp] theorem fzs_cons {H B : AH} {n : Nat} {v : V} {vs : List V} : frzs H B n (v :: vs) = (match frz H B n v, frzs H B n vs with
    | some x, some xs => some (x :: xs)
    | _, _ => Option.none) := rfl
@[local simp] theorem sa_nil {ρ : List (Option V)} : setAll [] [] ρ = some ρ := rfl
theorem sa_cons {i : Nat} {is : List Nat} {v : V} {vs : List V} {ρ : List (Option V)} : setAll (i :: is) (v :: vs) ρ = (if i < ρ.length then setAll is vs (ρ.set i (some v)) else Option.none) := by
  show (match putV i v ρ with
    | some ρ' => setAll is vs ρ'
    | Option.none => Option.none) = _
  unfold putV
  by_cases h : i < ρ.length
  · rw [if_pos h, if_pos h]
  · rw [if_neg h, if_neg h]
theorem putV_inv {i : Nat} {v : V} {ρ : List (Option V)} {P : List (Option V) → Prop} (h : match putV i v ρ with
    | some ρ' => P ρ'
    | Option.none => False) : i < ρ.length ∧ P (ρ.set i (some v)) := by
  unfold putV at h
  by_cases hi : i < ρ.length
  · rw [if_pos hi] at h; exact ⟨hi, h⟩
  · rw [if_neg hi] at h; exact False.elim h
/-- what a call asks of its body's end -/
def PK (H : AH) (Q : V → Prop) (fl : Fl) (st : St) : Prop := match fl with
  | .ret v => (match frz st.H H 8 v with
    | some v' => Q v'
    | Option.none => False)
  | .next => Q .none
  | _ => False
@[local simp] theorem pk_ret {H : AH} {Q : V → Prop} {v : V} {st : St} : PK H Q (.ret v) st = (match frz st.H H 8 v with
    | some v' => Q v'
    | Option.none => False) := rfl
@[local simp] theorem pk_next {H : AH} {Q : V → Prop} {st : St} : PK H Q .next st = Q .none := rfl
@[local simp] theorem sa_step {i : Nat} {is : List Nat} {v : V} {vs : List V} {ρ : List (Option V)} : setAll (i :: is) (v :: vs) ρ = (match putV i v ρ with
    | some ρ' => setAll is vs ρ'
    | Option.none => Option.none) := rfl
@[local simp] theorem lv_0 {C : Cx} {H B : AH} {Q : V → Prop} {X : String → Prop} {v : V} {ρ : List (Option V)} : WE C (.var 0) ⟨some v :: ρ, H, B⟩ Q X = Q v := rfl
@[local simp] theorem lp_0 {y : Option V} {v : V} {ρ : List (Option V)} : putV 0 v (y :: ρ) = some (some v :: ρ) := rfl
@[local simp] theorem lv_1 {C : Cx} {H B : AH} {Q : V → Prop} {X : String → Prop} {x0 : Option V} {v : V} {ρ : List (Option V)} : WE C (.var 1) ⟨x0 :: some v :: ρ, H, B⟩ Q X = Q v := rfl
@[local simp] theorem lp_1 {x0 : Option V} {y : Option V} {v : V} {ρ : List (Option V)} : putV 1 v (x0 :: y :: ρ) = some (x0 :: some v :: ρ) := rfl
@[local simp] theorem lv_2 {C : Cx} {H B : AH} {Q : V → Prop} {X : String → Prop} {x0 x1 : Option V} {v : V} {ρ : List (Option V)} : WE C (.var 2) ⟨x0 :: x1 :: some v :: ρ, H, B⟩ Q X = Q v := rfl
@[local simp] theorem lp_2 {x0 x1 : Option V} {y : Option V} {v : V} {ρ : List (Option V)} : putV 2 v (x0 :: x1 :: y :: ρ) = some (x0 :: x1 :: some v :: ρ) := rfl
@[local simp] theorem lv_3 {C : Cx} {H B : AH} {Q : V → Prop} {X : String → Prop} {x0 x1 x2 : Option V} {v : V} {ρ : List (Option V)} : WE C (.var 3) ⟨x0 :: x1 :: x2 :: some v :: ρ, H, B⟩ Q X = Q v := rfl
@[local simp] theorem lp_3 {x0 x1 x2 : Option V} {y : Option V} {v : V} {ρ : List (Option V)} : putV 3 v (x0 :: x1 :: x2 :: y :: ρ) = some (x0 :: x1 :: x2 :: some v :: ρ) := rfl
@[local simp] theorem lv_4 {C : Cx} {H B : AH} {Q : V → Prop} {X : String → Prop} {x0 x1 x2 x3 : Option V} {v : V} {ρ : List (Option V)} : WE C (.var 4) ⟨x0 :: x1 :: x2 :: x3 :: some v :: ρ, H, B⟩ Q X = Q v := rfl
@[local simp] theorem lp_4 {x0 x1 x2 x3 : Option V} {y : Option V} {v : V} {ρ : List (Option V)} : putV 4 v (x0 :: x1 :: x2 :: x3 :: y :: ρ) = some (x0 :: x1 :: x2 :: x3 :: some v :: ρ) := rfl
@[local simp] theorem lv_5 {C : Cx} {H B : AH} {Q : V → Prop} {X : String → Prop} {x0 x1 x2 x3 x4 : Option V} {v : V} {ρ : List (Option V)} : WE C (.var 5) ⟨x0 :: x1 :: x2 :: x3 :: x4 :: some v :: ρ, H, B⟩ Q X = Q v := rfl
@[local simp] theorem lp_5 {x0 x1 x2 x3 x4 : Option V} {y : Option V} {v : V} {ρ : List (Option V)} : putV 5 v (x0 :: x1 :: x2 :: x3 :: x4 :: y :: ρ) = some (x0 :: x1 :: x2 :: x3 :: x4 :: some v :: ρ) := rfl
@[local simp] theorem lv_6 {C : Cx} {H B : AH} {Q : V → Prop} {X : String → Prop} {x0 x1 x2 x3 x4 x5 : Option V} {v : V} {ρ : List (Option V)} : WE C (.var 6) ⟨x0 :: x1 :: x2 :: x3 :: x4 :: x5 :: some v :: ρ, H, B⟩ Q X = Q v := rfl
@[local simp] theorem lp_6 {x0 x1 x2 x3 x4 x5 : Option V} {y : Option V} {v : V} {ρ : List (Option V)} : putV 6 v (x0 :: x1 :: x2 :: x3 :: x4 :: x5 :: y :: ρ) = some (x0 :: x1 :: x2 :: x3 :: x4 :: x5 :: some v :: ρ) := rfl
@[local simp] theorem lv_7 {C : Cx} {H B : AH} {Q : V → Prop} {X : String → Prop} {x0 x1 x2 x3 x4 x5 x6 : Option V} {v : V} {ρ : List (Option V)} : WE C (.var 7) ⟨x0 :: x1 :: x2 :: x3 :: x4 :: x5 :: x6 :: some v :: ρ, H, B⟩ Q X = Q v := rfl
@[local simp] theorem lp_7 {x0 x1 x2 x3 x4 x5 x6 : Option V} {y : Option V} {v : V} {ρ : List (Option V)} : putV 7 v (x0 :: x1 :: x2 :: x3 :: x4 :: x5 :: x6 :: y :: ρ) = some (x0 :: x1 :: x2 :: x3 :: x4 :: x5 :: x6 :: some v :: ρ) := rfl
@[local simp] theorem lv_8 {C : Cx} {H B : AH} {Q : V → Prop} {X : String → Prop} {x0 x1 x2 x3 x4 x5 x6 x7 : Option V} {v : V} {ρ : List (Option V)} : WE C (.var 8) ⟨x0 :: x1 :: x2 :: x3 :: x4 :: x5 :: x6 :: x7 :: some v :: ρ, H, B⟩ Q X = Q v := rfl
@[local simp] theorem lp_8 {x0 x1 x2 x3 x4 x5 x6 x7 : Option V} {y : Option V} {v : V} {ρ : List (Option V)} : putV 8 v (x0 :: x1 :: x2 :: x3 :: x4 :: x5 :: x6 :: x7 :: y :: ρ) = some (x0 :: x1 :: x2 :: x3 :: x4 :: x5 :: x6 :: x7 :: some v :: ρ) := rfl
@[local simp] theorem lv_9 {C : Cx} {H B : AH} {Q : V → Prop} {X : String → Prop} {x0 x1 x2 x3 x4 x5 x6 x7 x8 : Option V} {v : V} {ρ : List (Option V)} : WE C (.var 9) ⟨x0 :: x1 :: x2 :: x3 :: x4 :: x5 :: x6 :: x7 :: x8 :: some v :: ρ, H, B⟩ Q X = Q v := rfl
@[local simp] theorem lp_9 {x0 x1 x2 x3 x4 x5 x6 x7 x8 : Option V} {y : Option V} {v : V} {ρ : List (Option V)} : putV 9 v (x0 :: x1 :: x2 :: x3 :: x4 :: x5 :: x6 :: x7 :: x8 :: y :: ρ) = some (x0 :: x1 :: x2 :: x3 :: x4 :: x5 :: x6 :: x7 :: x8 :: some v :: ρ) := rfl
@[local simp] theorem lv_10 {C : Cx} {H B : AH} {Q : V → Prop} {X : String → Prop} {x0 x1 x2 x3 x4 x5 x6 x7 x8 x9 : Option V} {v : V} {ρ : List (Option V)} : WE C (.var 10) ⟨x0 :: x1 :: x2 :: x3 :: x4 :: x5 :: x6 :: x7 :: x8 :: x9 :: some v :: ρ, H, B⟩ Q X = Q v := rfl
@[local simp] theorem lp_10 {x0 x1 x2 x3 x4 x5 x6 x7 x8 x9 : Option V} {y : Option V} {v : V} {ρ : List (Option V)} : putV 10 v (x0 :: x1 :: x2 :: x3 :: x4 :: x5 :: x6 :: x7 :: x8 :: x9 :: y :: ρ) = some (x0 :: x1 :: x2 :: x3 :: x4 :: x5 :: x6 :: x7 :: x8 :: x9 :: some v :: ρ) := rfl
@[local simp] theorem lv_11 {C : Cx} {H B : AH} {Q : V → Prop} {X : String → Prop} {x0 x1 x2 x3 x4 x5 x6 x7 x8 x9 x10 : Option V} {v : V} {ρ : List (Option V)} : WE C (.var 11) ⟨x0 :: x1 :: x2 :: x3 :: x4 :: x5 :: x6 :: x7 :: x8 :: x9 :: x10 :: some v :: ρ, H, B⟩ Q X = Q v := rfl
@[local simp] theorem lp_11 {x0 x1 x2 x3 x4 x5 x6 x7 x8 x9 x10 : Option V} {y : Option V} {v : V} {ρ : List (Option V)} : putV 11 v (x0 :: x1 :: x2 :: x3 :: x4 :: x5 :: x6 :: x7 :: x8 :: x9 :: x10 :: y :: ρ) = some (x0 :: x1 :: x2 :: x3 :: x4 :: x5 :: x6 :: x7 :: x8 :: x9 :: x10 :: some v :: ρ) := rfl
@[local simp] theorem lv_12 {C : Cx} {H B : AH} {Q : V → Prop} {X : String → Prop} {x0 x1 x2 x3 x4 x5 x6 x7 x8 x9 x10 x11 : Option V} {v : V} {ρ : List (Option V)} : WE C (.var 12) ⟨x0 :: x1 :: x2 :: x3 :: x4 :: x5 :: x6 :: x7 :: x8 :: x9 :: x10 :: x11 :: some v :: ρ, H, B⟩ Q X = Q v := rfl
@[local simp] theorem lp_12 {x0 x1 x2 x3 x4 x5 x6 x7 x8 x9 x10 x11 : Option V} {y : Option V} {v : V} {ρ : List (Option V)} : putV 12 v (x0 :: x1 :: x2 :: x3 :: x4 :: x5 :: x6 :: x7 :: x8 :: x9 :: x10 :: x11 :: y :: ρ) = some (x0 :: x1 :: x2 :: x3 :: x4 :: x5 :: x6 :: x7 :: x8 :: x9 :: x10 :: x11 :: some v :: ρ) := rfl
@[local simp] theorem lv_13 {C : Cx} {H B : AH} {Q : V → Prop} {X : String → Prop} {x0 x1 x2 x3 x4 x5 x6 x7 x8 x9 x10 x11 x12 : Option V} {v : V} {ρ : List (Option V)} : WE C (.var 13) ⟨x0 :: x1 :: x2 :: x3 :: x4 :: x5 :: x6 :: x7 :: x8 :: x9 :: x10 :: x11 :: x12 :: some v :: ρ, H, B⟩ Q X = Q v := rfl
@[local simp] theorem lp_13 {x0 x1 x2 x3 x4 x5 x6 x7 x8 x9 x10 x11 x12 : Option V} {y : Option V} {v : V} {ρ : List (Option V)} : putV 13 v (x0 :: x1 :: x2 :: x3 :: x4 :: x5 :: x6 :: x7 :: x8 :: x9 :: x10 :: x11 :: x12 :: y :: ρ) = some (x0 :: x1 :: x2 :: x3 :: x4 :: x5 :: x6 :: x7 :: x8 :: x9 :: x10 :: x11 :: x12 :: some v :: ρ) := rfl
@[local simp] theorem lb_var {i : Nat} {v : V} {ρ : List (Option V)} : bindT (.var i) v ρ = putV i v ρ := rfl
@[local simp] theorem ls_0 {H : AH} {Q : V → Prop} {x y : V} : subV H (.tup [x, y]) (.int 0) Q = Q x := rfl
@[local simp] theorem ls_1 {H : AH} {Q : V → Prop} {x y : V} : subV H (.tup [x, y]) (.int 1) Q = Q y := rfl
@[local simp] theorem sa_l {v : V} {vs : List V} {ρ : List (Option V)} : setAll [] (v :: vs) ρ = Option.none := rfl
@[local simp] theorem sa_r {i : Nat} {is : List Nat} {ρ : List (Option V)} : setAll (i :: is) [] ρ = Option.none := rfl
theorem bd_var {i : Nat} {v : V} {ρ : List (Option V)} : bindT (.var i) v ρ = (if i < ρ.length then some (ρ.set i (some v)) else Option.none) := rfl
@[local simp] theorem bd_tup {is : List Nat} {vs : List V} {ρ : List (Option V)} : bindT (.tup is) (.tup vs) ρ = setAll is vs ρ := rfl
@[local simp] theorem bd_none {is : List Nat}  {ρ : List (Option V)} : bindT (.tup is) .none ρ = Option.none := rfl
@[local simp] theorem bd_bool {is : List Nat} {b : Bool} {ρ : List (Option V)} : bindT (.tup is) (.bool b) ρ = Option.none := rfl
@[local simp] theorem bd_int {is : List Nat} {i : Int} {ρ : List (Option V)} : bindT (.tup is) (.int i) ρ = Option.none := rfl
@[local simp] theorem bd_str {is : List Nat} {s : Str} {ρ : List (Option V)} : bindT (.tup is) (.str s) ρ = Option.none := rfl
@[local simp] theorem bd_lst {is : List Nat} {vs : List V} {ρ : List (Option V)} : bindT (.tup is) (.lst vs) ρ = Option.none := rfl
@[local simp] theorem bd_ref {is : List Nat} {a : Nat} {ρ : List (Option V)} : bindT (.tup is) (.ref a) ρ = Option.none := rfl
@[local simp] theorem bd_inst {is : List Nat} {c : Nat} {ns : List String} {vs : List V} {ρ : List (Option V)} : bindT (.tup is) (.inst c ns vs) ρ = Option.none := rfl
@[local simp] theorem bd_iref {is : List Nat} {c : Nat} {ns : List String} {a : Nat} {ρ : List (Option V)} : bindT (.tup is) (.iref c ns a) ρ = Option.none := rfl
@[local simp] theorem bd_exc {is : List Nat} {c : String} {ρ : List (Option V)} : bindT (.tup is) (.exc c) ρ = Option.none := rfl
@[local simp] theorem bd_dct {is : List Nat}  {ρ : List (Option V)} : bindT (.tup is) .dct ρ = Option.none := rfl
@[local simp] theorem bn_none {n d : Nat} : bnd n d .none = some d := rfl
@[local simp] theorem bn_int {n d : Nat} {i : Int} : bnd n d (.int i) = some (clip n i) := rfl
@[local simp] theorem bn_bool {n d : Nat} {b : Bool} : bnd n d (.bool b) = Option.none := rfl
@[local simp] theorem bn_str {n d : Nat} {s : Str} : bnd n d (.str s) = Option.none := rfl
@[local simp] theorem bn_tup {n d : Nat} {vs : List V} : bnd n d (.tup vs) = Option.none := rfl
@[local simp] theorem bn_lst {n d : Nat} {vs : List V} : bnd n d (.lst vs) = Option.none := rfl
@[local simp] theorem bn_ref {n d : Nat} {a : Nat} : bnd n d (.ref a) = Option.none := rfl
@[local simp] theorem bn_inst {n d : Nat} {c : Nat} {ns : List String} {vs : List V} : bnd n d (.inst c ns vs) = Option.none := rfl
@[local simp] theorem bn_iref {n d : Nat} {c : Nat} {ns : List String} {a : Nat} : bnd n d (.iref c ns a) = Option.none := rfl
@[local simp] theorem bn_exc {n d : Nat} {c : String} : bnd n d (.exc c) = Option.none := rfl
@[local simp] theorem bn_dct {n d : Nat}  : bnd n d .dct = Option.none := rfl
theorem io_nil  : intsOf [] = some [] := rfl
theorem so_nil  : strsOf [] = some [] := rfl
theorem io_none  {r : List V} : intsOf (.none :: r) = Option.none := rfl
theorem so_none  {r : List V} : strsOf (.none :: r) = Option.none := rfl
theorem io_bool {b : Bool} {r : List V} : intsOf ((.bool b) :: r) = Option.none := rfl
theorem so_bool {b : Bool} {r : List V} : strsOf ((.bool b) :: r) = Option.none := rfl
theorem io_int {i : Int} {r : List V} : intsOf ((.int i) :: r) = (intsOf r).map (i :: ·) := rfl
theorem so_int {i : Int} {r : List V} : strsOf ((.int i) :: r) = Option.none := rfl
theorem io_str {s : Str} {r : List V} : intsOf ((.str s) :: r) = Option.none := rfl
theorem so_str {s : Str} {r : List V} : strsOf ((.str s) :: r) = (strsOf r).map (s :: ·) := rfl
theorem io_tup {ws : List V} {r : List V} : intsOf ((.tup ws) :: r) = Option.none := rfl
theorem so_tup {ws : List V} {r : List V} : strsOf ((.tup ws) :: r) = Option.none := rfl
theorem io_lst {ws : List V} {r : List V} : intsOf ((.lst ws) :: r) = Option.none := rfl
theorem so_lst {ws : List V} {r : List V} : strsOf ((.lst ws) :: r) = Option.none := rfl
theorem io_ref {a : Nat} {r : List V} : intsOf ((.ref a) :: r) = Option.none := rfl
theorem so_ref {a : Nat} {r : List V} : strsOf ((.ref a) :: r) = Option.none := rfl
theorem io_inst {c : Nat} {ns : List String} {ws : List V} {r : List V} : intsOf ((.inst c ns ws) :: r) = Option.none := rfl
theorem so_inst {c : Nat} {ns : List String} {ws : List V} {r : List V} : strsOf ((.inst c ns ws) :: r) = Option.none := rfl
theorem io_iref {c : Nat} {ns : List String} {a : Nat} {r : List V} : intsOf ((.iref c ns a) :: r) = Option.none := rfl
theorem so_iref {c : Nat} {ns : List String} {a : Nat} {r : List V} : strsOf ((.iref c ns a) :: r) = Option.none := rfl
theorem io_exc {c : String} {r : List V} : intsOf ((.exc c) :: r) = Option.none := rfl
theorem so_exc {c : String} {r : List V} : strsOf ((.exc c) :: r) = Option.none := rfl
theorem io_dct  {r : List V} : intsOf (.dct :: r) = Option.none := rfl
theorem so_dct  {r : List V} : strsOf (.dct :: r) = Option.none := rfl
theorem la_nil  : lenAll [] = 0 := rfl
theorem la_cons {s : Str} {r : List Str} : lenAll (s :: r) = s.length + lenAll r := rfl
theorem cl_nil {f : V → (Option V → Prop) → Prop} {Q : List V → Prop} : compL f [] Q = Q [] := rfl
theorem cl_cons {f : V → (Option V → Prop) → Prop} {Q : List V → Prop} {x : V} {xs : List V} : compL f (x :: xs) Q = f x fun r => compL f xs fun ys => Q (match r with
    | some y => y :: ys
    | Option.none => ys) := rfl
@[local simp] theorem bv_add {H : AH} {Q : V → Prop} {i j : Int} : binV H .add (.int i) (.int j) Q = Q (.int (i + j)) := rfl
@[local simp] theorem bv_adds {H : AH} {Q : V → Prop} {s t : Str} : binV H .add (.str s) (.str t) Q = (s.length + t.length ≤ sizeLine ∧ Q (.str (s ++ t))) := rfl
@[local simp] theorem bv_addl {H : AH} {Q : V → Prop} {x y : List V} : binV H .add (.lst x) (.lst y) Q = (x.length + y.length ≤ sizeLine ∧ Q (.lst (x ++ y))) := rfl
@[local simp] theorem bv_sub {H : AH} {Q : V → Prop} {i j : Int} : binV H .sub (.int i) (.int j) Q = Q (.int (i - j)) := rfl
@[local simp] theorem bv_mul {H : AH} {Q : V → Prop} {i j : Int} : binV H .mul (.int i) (.int j) Q = ((i.natAbs < 2 ^ 62 ∨ j.natAbs < 2 ^ 62) ∧ Q (.int (i * j))) := rfl
@[local simp] theorem bv_fdiv {H : AH} {Q : V → Prop} {i j : Int} : binV H .fdiv (.int i) (.int j) Q = (j ≠ 0 ∧ Q (.int (i.fdiv j))) := rfl
@[local simp] theorem bv_mod {H : AH} {Q : V → Prop} {i j : Int} : binV H .mod (.int i) (.int j) Q = (j ≠ 0 ∧ Q (.int (i.fmod j))) := rfl
@[local simp] theorem bv_mull {H : AH} {Q : V → Prop} {vs : List V} {n : Int} : binV H .mul (.lst vs) (.int n) Q = (-(2 ^ 62) ≤ n ∧ n < 2 ^ 62 ∧ vs.length * n.toNat ≤ sizeLine ∧ Q (.lst (repL n.toNat vs))) := rfl
@[local simp] theorem bv_muls {H : AH} {Q : V → Prop} {s : Str} {n : Int} : binV H .mul (.str s) (.int n) Q = (0 ≤ n ∧ n < 2 ^ 30 ∧ s.length * n.toNat ≤ sizeLine ∧ Q (.str ⟨(repL n.toNat s.cps.toList).toArray⟩)) := rfl
@[local simp] theorem cv_eq {H : AH} {Q : Bool → Prop} {a b : V} : cmpV H .eq a b Q = eqV H a b Q := rfl
@[local simp] theorem cv_ne {H : AH} {Q : Bool → Prop} {a b : V} : cmpV H .ne a b Q = eqV H a b fun r => Q (!r) := rfl
@[local simp] theorem cv_lt {H : AH} {Q : Bool → Prop} {i j : Int} : cmpV H .lt (.int i) (.int j) Q = Q (decide (i < j)) := rfl
@[local simp] theorem cv_le {H : AH} {Q : Bool → Prop} {i j : Int} : cmpV H .le (.int i) (.int j) Q = Q (decide (i ≤ j)) := rfl
@[local simp] theorem cv_gt {H : AH} {Q : Bool → Prop} {i j : Int} : cmpV H .gt (.int i) (.int j) Q = Q (decide (i > j)) := rfl
@[local simp] theorem cv_ge {H : AH} {Q : Bool → Prop} {i j : Int} : cmpV H .ge (.int i) (.int j) Q = Q (decide (i ≥ j)) := rfl
@[local simp] theorem cv_isin {H : AH} {Q : Bool → Prop} {a b : V} : cmpV H .isin a b Q = inV H a b Q := rfl
@[local simp] theorem cv_notin {H : AH} {Q : Bool → Prop} {a b : V} : cmpV H .notin a b Q = inV H a b fun r => Q (!r) := rfl
theorem in_str {H : AH} {Q : Bool → Prop} {s t : Str} : inV H (.str t) (.str s) Q = Q (hasSub s t) := rfl
@[local simp] theorem sb_tup {H : AH} {Q : V → Prop} {vs : List V} {i : Int} : subV H (.tup vs) (.int i) Q = (match idx vs.length i with
    | some n => (match vs[n]? with
      | some v => Q v
      | Option.none => False)
    | Option.none => False) := rfl
@[local simp] theorem sb_lst {H : AH} {Q : V → Prop} {vs : List V} {i : Int} : subV H (.lst vs) (.int i) Q = (match idx vs.length i with
    | some n => (match vs[n]? with
      | some v => Q v
      | Option.none => False)
    | Option.none => False) := rfl
@[local simp] theorem sb_str {H : AH} {Q : V → Prop} {s : Str} {i : Int} : subV H (.str s) (.int i) Q = (match idx s.length i with
    | some n => (match s.cps.toList[n]? with
      | some v => Q (.str ⟨#[v]⟩)
      | Option.none => False)
    | Option.none => False) := rfl
@[local simp] theorem sb_ref {H : AH} {Q : V → Prop} {a : Nat} {k : V} : subV H (.ref a) k Q = (match H a with
    | some (.dict kvs) => keyP k fun ks => (match dlook ks kvs with
      | some v => Q v
      | Option.none => False)
    | some (.list vs) => (match k with
      | .int i => (match idx vs.length i with
        | some n => (match vs[n]? with
          | some v => Q v
          | Option.none => False)
        | Option.none => False)
      | _ => False)
    | _ => False) := rfl
@[local simp] theorem sl_str {H : AH} {Q : V → Prop} {s : Str} {lo hi : V} : sliceV H (.str s) lo hi Q = (match bnd s.length 0 lo, bnd s.length s.length hi with
    | some l, some h => Q (.str ⟨(cutL s.cps.toList l h).toArray⟩)
    | _, _ => False) := rfl
@[local simp] theorem sl_lst {H : AH} {Q : V → Prop} {vs : List V} {lo hi : V} : sliceV H (.lst vs) lo hi Q = (match bnd vs.length 0 lo, bnd vs.length vs.length hi with
    | some l, some h => Q (.lst (cutL vs l h))
    | _, _ => False) := rfl
theorem fl_nil {t : Tg} {W : St → (Fl → St → Prop) → Prop} {Q : Fl → St → Prop} {st : St} : forL t W Q [] st = Q .next st := rfl
theorem fl_cons {t : Tg} {W : St → (Fl → St → Prop) → Prop} {Q : Fl → St → Prop} {st : St} {x : V} {xs : List V} : forL t W Q (x :: xs) st = (match bindT t x st.ρ with
    | some ρ' => W { st with ρ := ρ' } (fun f st' => match f with
      | .next | .cont => forL t W Q xs st'
      | .brk => Q .next st'
      | .ret v => Q (.ret v) st')
    | Option.none => False) := rfl
theorem wn_zero {T : St → (Bool → Prop) → Prop} {W : St → (Fl → St → Prop) → Prop} {Q : Fl → St → Prop} {st : St} : whileN T W Q 0 st = False := rfl
theorem wn_succ {T : St → (Bool → Prop) → Prop} {W : St → (Fl → St → Prop) → Prop} {Q : Fl → St → Prop} {st : St} {n : Nat} : whileN T W Q (n + 1) st = (T st fun b => if b then W st (fun f st' => match f with
      | .next | .cont => whileN T W Q n st'
      | .brk => Q .next st'
      | .ret v => Q (.ret v) st') else Q .next st) := rfl
@[local simp] theorem stv {H B : AH} {ad : Nat} {i : Int} {P : Nat → List V → Nat → Prop} : setV H B (.ref ad) (.int i) P = (B ad = Option.none ∧ 0 ≤ i ∧ ∃ vs, H ad = some (.list vs) ∧ i < vs.length ∧ P ad vs i.toNat) := rfl
@[local simp] theorem i2r {i j : Int} {P : Int → Int → Prop} : int2 [.int i, .int j] P = P i j := rfl
@[local simp] theorem s1r {H : AH} {vs : List V} {P : Int → Prop} : sum1 H [.lst vs] P = intsP vs fun is => P is.sum := rfl
@[local simp] theorem rg1 {i : Int} {P : Int → Prop} : rng1 [.int i] P = (smallI i ∧ P i) := rfl
@[local simp] theorem rg2 {i j : Int} {P : Int → Int → Prop} : rng2 [.int i, .int j] P = (smallI i ∧ smallI j ∧ P i j) := rfl
@[local simp] theorem rg3 {i j k : Int} {P : Int → Int → Int → Prop} : rng3 [.int i, .int j, .int k] P = (smallI i ∧ smallI j ∧ P i j k) := rfl
@[local simp] theorem rp_lst {H : AH} {vs : List V} {P : List V → Prop} : rowP H (.lst vs) P = P vs := rfl
@[local simp] theorem rp_tup {H : AH} {vs : List V} {P : List V → Prop} : rowP H (.tup vs) P = P vs := rfl
@[local simp] theorem sqp_lst {H : AH} {vs : List V} {P : List V → Prop} : seqP H (.lst vs) P = P vs := rfl
@[local simp] theorem ip_int {i : Int} {P : Int → Prop} : intP (.int i) P = P i := rfl
@[local simp] theorem iov_str {s : Str} {Q : V → Prop} : intOfV (.str s) Q = (allDigits s.cps.toList = true ∧ 0 < s.length ∧ s.length ≤ 100 ∧ Q (.int (digitsVal s.cps.toList))) := rfl
@[local simp] theorem iov_bool {b : Bool} {Q : V → Prop} : intOfV (.bool b) Q = Q (.int (if b then 1 else 0)) := rfl
theorem dp_none  : PyData.depth .none = 0 := rfl
theorem dp_int {i : Int} : PyData.depth (.int i) = 0 := rfl
theorem dp_bool {b : Bool} : PyData.depth (.bool b) = 0 := rfl
theorem dp_str {s : Str} : PyData.depth (.str s) = 0 := rfl
theorem dp_list {xs : List PyData} : PyData.depth (.list xs) = PyData.depthAll xs + 1 := rfl
theorem dp_tup {xs : List PyData} : PyData.depth (.tuple xs) = PyData.depthAll xs + 1 := rfl
theorem da_nil  : PyData.depthAll [] = 0 := rfl
theorem da_cons {x : PyData} {xs : List PyData} : PyData.depthAll (x :: xs) = max (PyData.depth x) (PyData.depthAll xs) := rfl
theorem ev_int {i j : Int} : PyData.eqv (.int i) (.int j) = (i == j) := rfl
theorem ev_str {s t : Str} : PyData.eqv (.str s) (.str t) = (s == t) := rfl
theorem ev_bool {b c : Bool} : PyData.eqv (.bool b) (.bool c) = (b == c) := rfl
theorem ev_none  : PyData.eqv .none .none = true := rfl
theorem ev_list {x y : List PyData} : PyData.eqv (.list x) (.list y) = PyData.eqvAll x y := rfl
theorem ev_tup {x y : List PyData} : PyData.eqv (.tuple x) (.tuple y) = PyData.eqvAll x y := rfl
theorem ea_nil  : PyData.eqvAll [] [] = true := rfl
theorem ea_cons {a b : PyData} {x y : List PyData} : PyData.eqvAll (a :: x) (b :: y) = (PyData.eqv a b && PyData.eqvAll x y) := rfl

section
set_option linter.unusedSimpArgs false
set_option autoImplicit false
namespace Lib
open PySem Mine

noncomputable def F_is_whole : Fn := ⟨1, ["thing"], 1,
  (.cons (.ret (.and (.isinst (.var 0) .int) (.not (.isinst (.var 0) .bool))))
  .nil)⟩
noncomputable def F_is_text : Fn := ⟨1, ["thing", "sign"], 2,
  (.cons (.ite (.not (.isinst (.var 0) .str)) (.cons (.ret (.bool false))
    .nil) .nil)
  (.cons (.for (.var 1) (.seq (.var 0)) (.cons (.ite (.cmp (.var 1) (.one .notin (.glob "SIGNS"))) (.cons (.ret (.bool false))
      .nil) .nil)
    .nil))
  (.cons (.ret (.bool true))
  .nil)))⟩
noncomputable def F_is_symbol : Fn := ⟨2, ["thing", "below"], 2,
  (.cons (.ite (.call "is_whole" (.cons (.var 0) .nil)) (.cons (.ret (.cmp (.int 0) (.more .le (.var 0) (.one .lt (.var 1)))))
    .nil) .nil)
  (.cons (.ret (.and (.call "is_text" (.cons (.var 0) .nil)) (.cmp (.len (.var 0)) (.one .eq (.int 1)))))
  .nil))⟩
noncomputable def F_is_rule : Fn := ⟨2, ["rule", "number"], 2,
  (.cons (.ite (.or (.not (.isinst (.var 0) .tuple)) (.cmp (.len (.var 0)) (.one .ne (.int 2)))) (.cons (.ret (.bool false))
    .nil) .nil)
  (.cons (.ret (.and (.call "is_symbol" (.cons (.sub (.var 0) (.int 0)) (.cons (.var 1) .nil))) (.call "is_symbol" (.cons (.sub (.var 0) (.int 1)) (.cons (.var 1) .nil)))))
  .nil))⟩
noncomputable def F_need_book : Fn := ⟨1, ["book", "rules", "row", "number", "symbol"], 5,
  (.cons (.ite (.or (.not (.isinst (.var 0) .tuple)) (.cmp (.len (.var 0)) (.one .ne (.int 2)))) (.cons (.raise "NoBook" (.str (Str.ofString "no pair")))
    .nil) .nil)
  (.cons (.assign (.var 1) (.sub (.var 0) (.int 0)))
  (.cons (.assign (.var 2) (.sub (.var 0) (.int 1)))
  (.cons (.ite (.or (.not (.isinst (.var 1) .list)) (.not (.isinst (.var 2) .list))) (.cons (.raise "NoBook" (.str (Str.ofString "no two lists")))
    .nil) .nil)
  (.cons (.ite (.or (.cmp (.len (.var 1)) (.one .gt (.glob "MOST_RULES"))) (.cmp (.len (.var 2)) (.one .gt (.glob "MOST_ROW")))) (.cons (.raise "NoBook" (.str (Str.ofString "too long")))
    .nil) .nil)
  (.cons (.for (.var 3) (.range1 (.len (.var 1))) (.cons (.ite (.not (.call "is_rule" (.cons (.sub (.var 1) (.var 3)) (.cons (.var 3) .nil)))) (.cons (.raise "NoBook" (.str (Str.ofString "no rule")))
      .nil) .nil)
    .nil))
  (.cons (.for (.var 4) (.seq (.var 2)) (.cons (.ite (.not (.call "is_symbol" (.cons (.var 4) (.cons (.len (.var 1)) .nil)))) (.cons (.raise "NoBook" (.str (Str.ofString "no symbol")))
      .nil) .nil)
    .nil))
  (.cons (.ret (.var 0))
  .nil))))))))⟩
noncomputable def F_law_cell_at : Fn := ⟨2, ["_law_script", "_law_k"], 2,
  (.cons (.ite (.cmp (.var 1) (.one .lt (.len (.var 0)))) (.cons (.ret (.sub (.var 0) (.var 1)))
    .nil) .nil)
  (.cons (.ret (.int 0))
  .nil))⟩
noncomputable def F_law_sign_by : Fn := ⟨1, ["_law_cell", "_law_some"], 2,
  (.cons (.assign (.var 1) (.str (Str.ofString " !\"#$&'()*+,-./0123456789:;<=>?@ABCDEFGHIJKLMNOPQRSTUVWXYZ[\\]^_`")))
  (.cons (.assign (.var 1) (.bin .add (.var 1) (.str (Str.ofString "abcdefghijklmnopqrstuvwxyz{|}~\n"))))
  (.cons (.ret (.sub (.var 1) (.bin .mod (.var 0) (.int 95))))
  .nil)))⟩
noncomputable def F_law_size : Fn := ⟨2, ["_law_symbol", "_law_sizes"], 2,
  (.cons (.ite (.isinst (.var 0) .str) (.cons (.ret (.int 1))
    .nil) .nil)
  (.cons (.ret (.sub (.var 1) (.var 0)))
  .nil))⟩
noncomputable def SIGNS : Str := Str.ofString " !\"#$&'()*+,-./0123456789:;<=>?@ABCDEFGHIJKLMNOPQRSTUVWXYZ[\\]^_`abcdefghijklmnopqrstuvwxyz{|}~\n"
noncomputable def SG : List Nat := SIGNS.cps.toList

theorem call_of {tbl : Tbl} {gl : List (String × V)} {cls : Clss} {d : Nat} {f : String} {fn : Fn} {args : List V} {H : AH} {Q : V → Prop} {X : String → Prop} (h : tbl.lookup f = some fn) (h1 : args.length = fn.np) (h2 : fn.np ≤ fn.nv)
    (h3 : WB (cxN tbl gl cls d) fn.body ⟨args.map some ++ List.replicate (fn.nv - fn.np) none, H, H⟩ (PK H Q) (fun x _ => X x)) : (cxN tbl gl cls (d + 1)).call f args H Q X := by
  show runN tbl gl cls (d + 1) f args H (fun v H' => match frz H' H 8 v with
    | some v' => Q v'
    | none => False) X
  unfold runN
  rw [h]
  refine ⟨h1, h2, ?_⟩
  have e : (fun (fl : Fl) (st : St) => (match fl with
      | .ret v => (match frz st.H H 8 v with
        | some v' => Q v'
        | none => False)
      | .next => (match frz st.H H 8 .none with
        | some v' => Q v'
        | none => False)
      | _ => False)) = PK H Q := by
    funext fl st
    cases fl <;> rfl
  exact e ▸ h3

inductive Sy where
  | ch (c : Nat)
  | ru (k : Nat)
noncomputable def Sy.v : Sy → V
  | .ch c => .str ⟨#[c]⟩
  | .ru k => .int k
noncomputable def Sy.ok (n : Nat) : Sy → Prop
  | .ch c => c ∈ SG
  | .ru k => k < n
theorem Sy.ok.mono {n m : Nat} {s : Sy} (h : s.ok n) (hm : n ≤ m) : s.ok m := by
  cases s with
  | ch c => exact h
  | ru k => exact Nat.lt_of_lt_of_le h hm

theorem has_sign : ∀ c ∈ SG, hasSub SIGNS ⟨#[c]⟩ = true := by decide +kernel

theorem idx_nat {n k : Nat} (h : k < n) : idx n (k : Int) = some k := by
  unfold idx
  rw [if_pos (by omega), if_pos (by omega)]
  simp
theorem eqV_int {H : AH} {a b : Int} {Q : Bool → Prop} : eqV H (.int a) (.int b) Q = Q (decide (a = b)) := by
  have e : (a == b) = decide (a = b) := by rw [Bool.eq_iff_iff]; simp
  simp [eqV, rv_none, rv_bool, rv_int, rv_str, rv_tup, rv_lst, rv_ref, rv_inst, rv_iref, rv_exc, rv_dct, td_none, td_bool, td_int, td_str, td_tup, td_lst, td_ref, td_inst, td_iref, td_exc, td_dct, dp_none, dp_int, dp_bool, dp_str, dp_list, dp_tup, ev_int, ev_str, ev_bool, ev_none, ev_list, ev_tup, e]
section
variable {tbl : Tbl} {gl : List (String × V)} {cls : Clss} {d : Nat} {H : AH} {Q : V → Prop} {X : String → Prop}

noncomputable abbrev Rl := Sy × Sy
noncomputable def pv (p : Rl) : V := .tup [p.1.v, p.2.v]
noncomputable def RulesOk (rs : List Rl) : Prop := ∀ (i : Nat) (p : Rl), rs[i]? = some p → p.1.ok i ∧ p.2.ok i
noncomputable def RowOk (n : Nat) (row : List Sy) : Prop := ∀ s ∈ row, s.ok n
noncomputable def bookV (rs : List Rl) (row : List Sy) : V := .tup [.lst (rs.map pv), .lst (row.map Sy.v)]

theorem upL_nil {a b : Int} (h : b ≤ a) : upL a b = [] := by
  unfold upL
  have : (b - a).toNat = 0 := by omega
  simp [this]
theorem upL_cons {a b : Int} (h : a < b) : upL a b = .int a :: upL (a + 1) b := by
  unfold upL
  have : (b - a).toNat = (b - (a + 1)).toNat + 1 := by omega
  rw [this, List.range_succ_eq_map]
  simp only [List.map_cons, List.map_map, List.cons.injEq]
  refine ⟨by simp, List.map_congr_left fun k _ => ?_⟩
  simp only [Function.comp]
  congr 1
  omega

end

end Lib
end

section
set_option autoImplicit false
set_option linter.unusedSimpArgs false
set_option linter.unusedVariables false
namespace Lib
open PySem Mine

/-! the texts of a book's rules -/
noncomputable def tx (ts : List (List Nat)) : Sy → List Nat
  | .ch c => [c]
  | .ru k => ts.getD k []
noncomputable def Tx (rs : List Rl) : List (List Nat) := rs.foldl (fun ts p => ts ++ [tx ts p.1 ++ tx ts p.2]) []
theorem Tx_snoc (rs : List Rl) (p : Rl) : Tx (rs ++ [p]) = Tx rs ++ [tx (Tx rs) p.1 ++ tx (Tx rs) p.2] := by simp [Tx]
theorem fold_more : ∀ (rs : List Rl) (ts : List (List Nat)), ∃ us, rs.foldl (fun ts p => ts ++ [tx ts p.1 ++ tx ts p.2]) ts = ts ++ us ∧ us.length = rs.length
  | [], ts => ⟨[], by simp⟩
  | p :: rs, ts => by
    obtain ⟨us, h1, h2⟩ := fold_more rs (ts ++ [tx ts p.1 ++ tx ts p.2])
    exact ⟨(tx ts p.1 ++ tx ts p.2) :: us, by simp [h1], by simp [h2]⟩
theorem Tx_length (rs : List Rl) : (Tx rs).length = rs.length := by
  obtain ⟨us, h1, h2⟩ := fold_more rs []
  simp [Tx, h1, h2]
theorem Tx_append (a b : List Rl) : ∃ us, Tx (a ++ b) = Tx a ++ us ∧ us.length = b.length := by
  unfold Tx
  rw [List.foldl_append]
  exact fold_more b _
theorem tx_more {ts us : List (List Nat)} {s : Sy} (h : s.ok ts.length) : tx (ts ++ us) s = tx ts s := by
  cases s with
  | ch c => rfl
  | ru k =>
    have h : k < ts.length := h
    simp [tx, List.getD, List.getElem?_append_left h]
theorem Tx_get {rs : List Rl} (hr : RulesOk rs) {i : Nat} {p : Rl} (hp : rs[i]? = some p) : (Tx rs)[i]? = some (tx (Tx rs) p.1 ++ tx (Tx rs) p.2) := by
  obtain ⟨hlt, e⟩ := List.getElem?_eq_some_iff.mp hp
  obtain ⟨o1, o2⟩ := hr i p hp
  have hsplit : rs = (rs.take i ++ [p]) ++ rs.drop (i + 1) := by
    rw [List.append_assoc, List.singleton_append, ← e, List.getElem_cons_drop, List.take_append_drop]
  have htl : (Tx (rs.take i)).length = i := by rw [Tx_length, List.length_take]; omega
  obtain ⟨us, h1, _⟩ := Tx_append (rs.take i ++ [p]) (rs.drop (i + 1))
  rw [Tx_snoc] at h1
  have hT : Tx rs = Tx (rs.take i) ++ ([tx (Tx (rs.take i)) p.1 ++ tx (Tx (rs.take i)) p.2] ++ us) := by
    rw [← List.append_assoc, ← h1, ← hsplit]
  have m1 : tx (Tx rs) p.1 = tx (Tx (rs.take i)) p.1 := by rw [hT]; exact tx_more (by rw [htl]; exact o1)
  have m2 : tx (Tx rs) p.2 = tx (Tx (rs.take i)) p.2 := by rw [hT]; exact tx_more (by rw [htl]; exact o2)
  rw [m1, m2, hT, List.getElem?_append_right (by omega), htl]
  simp
theorem tx_pos {rs : List Rl} (hr : RulesOk rs) : ∀ {s : Sy}, s.ok rs.length → 1 ≤ (tx (Tx rs) s).length := by
  have key : ∀ n k, k ≤ n → k < rs.length → 1 ≤ ((Tx rs).getD k []).length := by
    intro n
    induction n with
    | zero =>
      intro k hk hlt
      have hp := List.getElem?_eq_getElem hlt
      obtain ⟨o1, o2⟩ := hr k _ hp
      have hg := Tx_get hr hp
      simp only [List.getD, hg, Option.getD_some, List.length_append]
      cases h1 : rs[k].1 with
      | ch c => simp [tx]
      | ru j => rw [h1] at o1; have : j < k := o1; omega
    | succ n ih =>
      intro k hk hlt
      have hp := List.getElem?_eq_getElem hlt
      obtain ⟨o1, o2⟩ := hr k _ hp
      have hg := Tx_get hr hp
      simp only [List.getD, hg, Option.getD_some, List.length_append]
      cases h1 : rs[k].1 with
      | ch c => simp [tx]
      | ru j =>
        rw [h1] at o1
        have hj : j < k := o1
        have := ih j (by omega) (by omega)
        simp only [tx]; omega
  intro s hs
  cases s with
  | ch c => simp [tx]
  | ru k => exact key k k (Nat.le_refl _) hs

noncomputable def bt (rs : List Rl) (row : List Sy) : List Nat := (row.map (tx (Tx rs))).flatten
noncomputable def lst (l : List Nat) : V := .str ⟨l.toArray⟩

end Lib
end

section
set_option autoImplicit false
set_option linter.unusedSimpArgs false
set_option linter.unusedVariables false
namespace Lib
open PySem Mine

section
variable {tbl : Tbl} {gl : List (String × V)} {cls : Clss} {d : Nat} {H : AH} {Q : V → Prop} {X : String → Prop}

theorem fm (a : Int) {b : Int} (h : 0 < b) : 0 ≤ a.fmod b ∧ a.fmod b < b := ⟨Int.fmod_nonneg_of_pos a h, Int.fmod_lt_of_pos a h⟩

end

end Lib
end

section
set_option autoImplicit false
set_option linter.unusedSimpArgs false
set_option linter.unusedVariables false
namespace Lib
open PySem Mine

section
variable {tbl : Tbl} {gl : List (String × V)} {cls : Clss} {d : Nat} {H : AH} {Q : V → Prop} {X : String → Prop}

noncomputable def szv (ts : List (List Nat)) : List V := ts.map fun l => V.int (l.length : Int)

theorem seq_ref {a : Nat} {vs : List V} (h : H a = some (.list vs)) : seqL H (.ref a) = some vs := by simp [h]
theorem sub_seq {u : V} {vs : List V} {k : Nat} {w : V} (hu : seqL H u = some vs) (hk : vs[k]? = some w) (hq : Q w) : subV H u (.int k) Q := by
  have hlt : k < vs.length := (List.getElem?_eq_some_iff.mp hk).1
  cases u <;> simp at hu
  · subst hu; simp [idx_nat hlt, hk, hq]
  · rename_i a
    cases ho : H a with
    | none => simp [ho] at hu
    | some o => cases o <;> simp [ho] at hu
                subst hu; simp [ho, idx_nat hlt, hk, hq]
end

end Lib
end

section
set_option autoImplicit false
set_option linter.unusedSimpArgs false
set_option linter.unusedVariables false
namespace Lib
open PySem Mine

noncomputable def S1 (l : List Nat) : Str := ⟨l.toArray⟩
section
variable {tbl : Tbl} {gl : List (String × V)} {cls : Clss} {d : Nat} {H : AH} {Q : V → Prop} {X : String → Prop}

end

end Lib
end

section
set_option autoImplicit false
set_option linter.unusedSimpArgs false
set_option linter.unusedVariables false
namespace Lib
open PySem Mine

noncomputable def ones (l : List Nat) : List V := l.map fun c => V.str ⟨#[c]⟩
theorem bt_cons {rs : List Rl} {s : Sy} {w : List Sy} : bt rs (s :: w) = tx (Tx rs) s ++ bt rs w := by simp [bt]
end Lib
end

section
set_option autoImplicit false
set_option linter.unusedSimpArgs false
set_option linter.unusedVariables false
namespace Lib
open PySem Mine

/-- plain data, not deeper than n, like itself -/
noncomputable def Dn (n : Nat) (v : V) : Prop := ∃ x, toD v = some x ∧ x.depth ≤ n ∧ PyData.eqv x x = true
theorem Dn.int {n : Nat} (i : Int) : Dn n (.int i) := ⟨.int i, by simp [td_none, td_bool, td_int, td_str, td_tup, td_lst, td_ref, td_inst, td_iref, td_exc, td_dct], by simp [dp_none, dp_int, dp_bool, dp_str, dp_list, dp_tup], by simp [ev_int, ev_str, ev_bool, ev_none, ev_list, ev_tup]⟩
theorem Dn.none {n : Nat} : Dn n .none := ⟨.none, by simp [td_none, td_bool, td_int, td_str, td_tup, td_lst, td_ref, td_inst, td_iref, td_exc, td_dct], by simp [dp_none, dp_int, dp_bool, dp_str, dp_list, dp_tup], by simp [ev_int, ev_str, ev_bool, ev_none, ev_list, ev_tup]⟩
theorem Dn.str {n : Nat} (i : Str) : Dn n (.str i) := ⟨.str i, by simp [td_none, td_bool, td_int, td_str, td_tup, td_lst, td_ref, td_inst, td_iref, td_exc, td_dct], by simp [dp_none, dp_int, dp_bool, dp_str, dp_list, dp_tup], by simp [ev_int, ev_str, ev_bool, ev_none, ev_list, ev_tup]⟩
theorem Dn.all {n : Nat} : ∀ {vs : List V}, (∀ v ∈ vs, Dn n v) → ∃ xs, toDs vs = some xs ∧ PyData.depthAll xs ≤ n ∧ PyData.eqvAll xs xs = true
  | [], _ => ⟨[], by simp [tds_nil, tds_cons], by simp [da_nil, da_cons], by simp [ea_nil, ea_cons]⟩
  | v :: vs, h => by
    obtain ⟨x, h1, h2, h3⟩ := h v (by simp)
    obtain ⟨xs, g1, g2, g3⟩ := Dn.all (vs := vs) fun w hw => h w (by simp [hw])
    refine ⟨x :: xs, by simp [tds_nil, tds_cons, h1, g1], ?_, by simp [ea_nil, ea_cons, h3, g3]⟩
    simp only [da_nil, da_cons]; omega
theorem Dn.lst {n : Nat} {vs : List V} (h : ∀ v ∈ vs, Dn n v) : Dn (n + 1) (.lst vs) := by
  obtain ⟨xs, g1, g2, g3⟩ := Dn.all h
  exact ⟨.list xs, by simp [td_none, td_bool, td_int, td_str, td_tup, td_lst, td_ref, td_inst, td_iref, td_exc, td_dct, g1], by simp only [dp_none, dp_int, dp_bool, dp_str, dp_list, dp_tup]; omega, by simp [ev_int, ev_str, ev_bool, ev_none, ev_list, ev_tup, g3]⟩
theorem Dn.tup {n : Nat} {vs : List V} (h : ∀ v ∈ vs, Dn n v) : Dn (n + 1) (.tup vs) := by
  obtain ⟨xs, g1, g2, g3⟩ := Dn.all h
  exact ⟨.tuple xs, by simp [td_none, td_bool, td_int, td_str, td_tup, td_lst, td_ref, td_inst, td_iref, td_exc, td_dct, g1], by simp only [dp_none, dp_int, dp_bool, dp_str, dp_list, dp_tup]; omega, by simp [ev_int, ev_str, ev_bool, ev_none, ev_list, ev_tup, g3]⟩
theorem eqV_same {H : AH} {v : V} {Q : Bool → Prop} (h : Dn 64 v) (hq : Q true) : eqV H v v Q := by
  obtain ⟨x, h1, h2, h3⟩ := h
  have hr : resV H v = v := by cases v <;> first | rfl | (simp [td_none, td_bool, td_int, td_str, td_tup, td_lst, td_ref, td_inst, td_iref, td_exc, td_dct] at h1)
  simp [eqV, hr, h1, h2, h3, hq]
theorem eqV_str {H : AH} {s t : Str} {Q : Bool → Prop} : eqV H (.str s) (.str t) Q = Q (decide (s = t)) := by
  have e : (s == t) = decide (s = t) := by rw [Bool.eq_iff_iff]; simp
  simp [eqV, rv_none, rv_bool, rv_int, rv_str, rv_tup, rv_lst, rv_ref, rv_inst, rv_iref, rv_exc, rv_dct, td_none, td_bool, td_int, td_str, td_tup, td_lst, td_ref, td_inst, td_iref, td_exc, td_dct, dp_none, dp_int, dp_bool, dp_str, dp_list, dp_tup, ev_int, ev_str, ev_bool, ev_none, ev_list, ev_tup, e]
end Lib
end

section
set_option autoImplicit false
set_option linter.unusedSimpArgs false
set_option linter.unusedVariables false
namespace Lib
open PySem Mine

noncomputable def F_length_of : Fn := ⟨2, ["symbol", "sizes"], 2,
  (.cons (.ite (.isinst (.var 0) .str) (.cons (.ret (.int 1))
    .nil) .nil)
  (.cons (.ret (.sub (.var 1) (.var 0)))
  .nil))⟩
noncomputable def F_lengths : Fn := ⟨1, ["book", "sizes", "rule"], 3,
  (.cons (.expr (.call "need_book" (.cons (.var 0) .nil)))
  (.cons (.own 1 (.list .nil))
  (.cons (.for (.var 2) (.seq (.sub (.var 0) (.int 0))) (.cons (.append (.var 1) (.pure (.bin .add (.call "length_of" (.cons (.sub (.var 2) (.int 0)) (.cons (.var 1) .nil))) (.call "length_of" (.cons (.sub (.var 2) (.int 1)) (.cons (.var 1) .nil))))))
    .nil))
  (.cons (.ret (.var 1))
  .nil))))⟩
noncomputable def F_total_of : Fn := ⟨2, ["book", "sizes"], 3,
  (.cons (.ret (.sum (.comp (.call "length_of" (.cons (.var 2) (.cons (.var 1) .nil))) (.var 2) (.seq (.sub (.var 0) (.int 1))))))
  .nil)⟩
noncomputable def F_sign_at : Fn := ⟨2, ["book", "place", "sizes", "at", "symbol", "opened", "rule", "size"], 8,
  (.cons (.assign (.var 2) (.call "lengths" (.cons (.var 0) .nil)))
  (.cons (.ite (.or (.not (.call "is_whole" (.cons (.var 1) .nil))) (.not (.cmp (.int 0) (.more .le (.var 1) (.one .lt (.call "total_of" (.cons (.var 0) (.cons (.var 2) .nil)))))))) (.cons (.raise "NoPlace" (.str (Str.ofString "no such place")))
    .nil) .nil)
  (.cons (.assign (.var 3) (.int 0))
  (.cons (.while (.cmp (.var 1) (.one .ge (.call "length_of" (.cons (.sub (.sub (.var 0) (.int 1)) (.var 3)) (.cons (.var 2) .nil))))) (.cons (.assign (.var 1) (.bin .sub (.var 1) (.call "length_of" (.cons (.sub (.sub (.var 0) (.int 1)) (.var 3)) (.cons (.var 2) .nil)))))
    (.cons (.assign (.var 3) (.bin .add (.var 3) (.int 1)))
    .nil)))
  (.cons (.assign (.var 4) (.sub (.sub (.var 0) (.int 1)) (.var 3)))
  (.cons (.own 5 (.list .nil))
  (.cons (.while (.not (.isinst (.var 4) .str)) (.cons (.append (.var 5) (.pure (.var 4)))
    (.cons (.assign (.var 6) (.sub (.sub (.var 0) (.int 0)) (.var 4)))
    (.cons (.assign (.var 7) (.call "length_of" (.cons (.sub (.var 6) (.int 0)) (.cons (.var 2) .nil))))
    (.cons (.assign (.var 4) (.sub (.var 6) (.int 0)))
    (.cons (.ite (.cmp (.var 1) (.one .ge (.var 7))) (.cons (.assign (.var 1) (.bin .sub (.var 1) (.var 7)))
      (.cons (.assign (.var 4) (.sub (.var 6) (.int 1)))
      .nil)) .nil)
    .nil))))))
  (.cons (.ret (.tup (.cons (.var 4) (.cons (.var 5) .nil))))
  .nil))))))))⟩
noncomputable def F_law_way : Fn := ⟨2, ["_law_book", "_law_place", "_law_sizes", "_law_todo", "_law_opened", "_law_one", "_law_other"], 7,
  (.cons (.own 2 (.list .nil))
  (.cons (.for (.tup [5, 6]) (.seq (.sub (.var 0) (.int 0))) (.cons (.append (.var 2) (.pure (.bin .add (.call "_law_size" (.cons (.var 5) (.cons (.var 2) .nil))) (.call "_law_size" (.cons (.var 6) (.cons (.var 2) .nil))))))
    .nil))
  (.cons (.assign (.var 3) (.listOf (.seq (.sub (.var 0) (.int 1)))))
  (.cons (.own 4 (.list .nil))
  (.cons (.while (.bool true) (.cons (.while (.cmp (.var 1) (.one .ge (.call "_law_size" (.cons (.sub (.var 3) (.int 0)) (.cons (.var 2) .nil))))) (.cons (.assign (.var 1) (.bin .sub (.var 1) (.call "_law_size" (.cons (.sub (.var 3) (.int 0)) (.cons (.var 2) .nil)))))
      (.cons (.assign (.var 3) (.slice (.var 3) (.int 1) .none))
      .nil)))
    (.cons (.ite (.isinst (.sub (.var 3) (.int 0)) .str) (.cons (.ret (.tup (.cons (.sub (.var 3) (.int 0)) (.cons (.var 4) .nil))))
      .nil) .nil)
    (.cons (.append (.var 4) (.pure (.sub (.var 3) (.int 0))))
    (.cons (.assign (.var 3) (.listOf (.seq (.sub (.sub (.var 0) (.int 0)) (.sub (.var 3) (.int 0))))))
    .nil)))))
  .nil)))))⟩
theorem ints_map {α : Type} {g : α → Int} : ∀ (r : List α), intsOf (r.map fun s => V.int (g s)) = some (r.map g)
  | [] => rfl
  | s :: r => by simp [io_nil, io_none, io_bool, io_int, io_str, io_tup, io_lst, io_ref, io_inst, io_iref, io_exc, io_dct, ints_map r]
theorem ints_p {α : Type} {g : α → Int} {P : List Int → Prop} (r : List α) : intsP (r.map fun s => V.int (g s)) P = P (r.map g) := by simp only [intsP, ints_map]
theorem bt_sum {rs : List Rl} : ∀ (r : List Sy), (r.map fun s => ((tx (Tx rs) s).length : Int)).sum = ((bt rs r).length : Int)
  | [] => rfl
  | s :: r => by simp [bt_cons, bt_sum r]
theorem szv_snoc (rs : List Rl) (p : Rl) : szv (Tx (rs ++ [p])) = szv (Tx rs) ++ [V.int ((tx (Tx rs) p.1).length + (tx (Tx rs) p.2).length)] := by rw [Tx_snoc]; simp [szv]
theorem szv_length (ts : List (List Nat)) : (szv ts).length = ts.length := by simp [szv]

section
variable {tbl : Tbl} {gl : List (String × V)} {cls : Clss} {d : Nat} {H : AH} {Q : V → Prop} {X : String → Prop}

end

end Lib
end

section
set_option autoImplicit false
set_option linter.unusedSimpArgs false
set_option linter.unusedVariables false
namespace Lib
open PySem Mine

/-- the way down to the sign at a place of a symbol's text -/
inductive Way (rs : List Rl) : Sy → Nat → Nat → List Nat → Prop
  | ch (c : Nat) : Way rs (.ch c) 0 c []
  | left (k : Nat) (a b : Sy) (p c : Nat) (l : List Nat) (h : rs[k]? = some (a, b)) (hp : p < (tx (Tx rs) a).length) (w : Way rs a p c l) : Way rs (.ru k) p c (k :: l)
  | right (k : Nat) (a b : Sy) (p c : Nat) (l : List Nat) (h : rs[k]? = some (a, b)) (hp : p < (tx (Tx rs) b).length) (w : Way rs b p c l) : Way rs (.ru k) ((tx (Tx rs) a).length + p) c (k :: l)

theorem tx_rule {rs : List Rl} (hr : RulesOk rs) {k : Nat} {a b : Sy} (h : rs[k]? = some (a, b)) : tx (Tx rs) (.ru k) = tx (Tx rs) a ++ tx (Tx rs) b := by
  have := Tx_get hr h
  simp only [tx, List.getD, this, Option.getD_some]

theorem way_of {rs : List Rl} (hr : RulesOk rs) : ∀ (s : Sy), s.ok rs.length → ∀ p, p < (tx (Tx rs) s).length → ∃ c l, Way rs s p c l ∧ (tx (Tx rs) s)[p]? = some c ∧ l.length ≤ rs.length := by
  have key : ∀ n (s : Sy), s.ok n → n ≤ rs.length → ∀ p, p < (tx (Tx rs) s).length → ∃ c l, Way rs s p c l ∧ (tx (Tx rs) s)[p]? = some c ∧ l.length ≤ n := by
    intro n
    induction n using Nat.strongRecOn with
    | _ n ih =>
      intro s hs hn p hp
      cases s with
      | ch c =>
        have : p = 0 := by simp [tx] at hp; exact hp
        subst this
        exact ⟨c, [], .ch c, by simp [tx], by simp⟩
      | ru k =>
        have hk : k < n := hs
        have hlt : k < rs.length := by omega
        have hg : rs[k]? = some (rs[k].1, rs[k].2) := List.getElem?_eq_getElem hlt
        obtain ⟨o1, o2⟩ := hr k _ hg
        rw [tx_rule hr hg] at hp ⊢
        simp only [List.length_append] at hp
        rcases Nat.lt_or_ge p (tx (Tx rs) rs[k].1).length with q | q
        · obtain ⟨c, l, w, e, hl⟩ := ih k hk _ o1 (by omega) p q
          exact ⟨c, k :: l, .left k _ _ p c l hg q w, by rw [List.getElem?_append_left q]; exact e, by simp; omega⟩
        · obtain ⟨c, l, w, e, hl⟩ := ih k hk _ o2 (by omega) (p - (tx (Tx rs) rs[k].1).length) (by show _ < (tx (Tx rs) rs[k].2).length; omega)
          refine ⟨c, k :: l, ?_, by rw [List.getElem?_append_right q]; exact e, by simp; omega⟩
          have := Way.right k _ _ _ c l hg (by omega) w
          rwa [Nat.add_sub_cancel' q] at this
  intro s hs p hp
  exact key _ s hs (Nat.le_refl _) p hp

theorem bt_append {rs : List Rl} {a b : List Sy} : bt rs (a ++ b) = bt rs a ++ bt rs b := by simp [bt]
theorem split_at {rs : List Rl} : ∀ (r : List Sy) (p : Nat), p < (bt rs r).length → ∃ pre s post p0, r = pre ++ s :: post ∧ p = (bt rs pre).length + p0 ∧ p0 < (tx (Tx rs) s).length
  | [], p, h => by simp [bt] at h
  | s :: r, p, h => by
    rw [bt_cons] at h
    simp only [List.length_append] at h
    rcases Nat.lt_or_ge p (tx (Tx rs) s).length with q | q
    · exact ⟨[], s, r, p, rfl, by simp [bt], q⟩
    · obtain ⟨pre, s', post, p0, e1, e2, e3⟩ := split_at (rs := rs) r (p - (tx (Tx rs) s).length) (by omega)
      refine ⟨s :: pre, s', post, p0, by simp [e1], ?_, e3⟩
      rw [bt_cons]; simp only [List.length_append]; omega

noncomputable def nv (l : List Nat) : List V := l.map fun (k : Nat) => V.int (k : Int)
theorem nv_snoc (l : List Nat) (k : Nat) : nv l ++ [V.int (k : Int)] = nv (l ++ [k]) := by simp [nv]
theorem nv_length (l : List Nat) : (nv l).length = l.length := by simp [nv]
section
variable {tbl : Tbl} {gl : List (String × V)} {cls : Clss} {d : Nat} {H : AH} {Q : V → Prop} {X : String → Prop}

end

end Lib
end

section
set_option autoImplicit false
set_option linter.unusedSimpArgs false
set_option linter.unusedVariables false
namespace Lib
open PySem Mine

theorem cut1 {α : Type} (x : α) (l : List α) : cutL (x :: l) (clip (x :: l).length 1) (x :: l).length = l := by
  have : clip (x :: l).length 1 = 1 := by simp [clip]; omega
  rw [this]; simp [cutL]
section
variable {tbl : Tbl} {gl : List (String × V)} {cls : Clss} {d : Nat} {H : AH} {Q : V → Prop} {X : String → Prop}

end

end Lib
end

section
set_option autoImplicit false
set_option linter.unusedSimpArgs false
set_option linter.unusedVariables false
namespace Lib
open PySem Mine
section
variable {tbl : Tbl} {gl : List (String × V)} {cls : Clss} {d : Nat} {H : AH} {Q : V → Prop} {X : String → Prop}
theorem Dn.nv {n : Nat} (l : List Nat) : Dn (n + 1) (.lst (nv l)) := .lst fun v hv => by
  obtain ⟨k, _, rfl⟩ := List.mem_map.mp hv
  exact .int _
end
end Lib
end

section
set_option autoImplicit false
set_option linter.unusedSimpArgs false
set_option linter.unusedVariables false
namespace Lib
open PySem Mine

noncomputable def F_length : Fn := ⟨1, ["book", "sizes"], 3,
  (.cons (.assign (.var 1) (.call "lengths" (.cons (.var 0) .nil)))
  (.cons (.ret (.sum (.comp (.call "length_of" (.cons (.var 2) (.cons (.var 1) .nil))) (.var 2) (.seq (.sub (.var 0) (.int 1))))))
  .nil))⟩
noncomputable def F_height_of : Fn := ⟨2, ["symbol", "heights"], 2,
  (.cons (.ite (.isinst (.var 0) .str) (.cons (.ret (.int 0))
    .nil) .nil)
  (.cons (.ret (.sub (.var 1) (.var 0)))
  .nil))⟩
noncomputable def F_depth : Fn := ⟨1, ["book", "heights", "rule"], 4,
  (.cons (.expr (.call "need_book" (.cons (.var 0) .nil)))
  (.cons (.own 1 (.list .nil))
  (.cons (.for (.var 2) (.seq (.sub (.var 0) (.int 0))) (.cons (.append (.var 1) (.pure (.bin .add (.int 1) (.max2 (.call "height_of" (.cons (.sub (.var 2) (.int 0)) (.cons (.var 1) .nil))) (.call "height_of" (.cons (.sub (.var 2) (.int 1)) (.cons (.var 1) .nil)))))))
    .nil))
  (.cons (.ret (.maxd (.comp (.call "height_of" (.cons (.var 3) (.cons (.var 1) .nil))) (.var 3) (.seq (.sub (.var 0) (.int 1)))) (.int 0)))
  .nil))))⟩
noncomputable def ht (hs : List Nat) : Sy → Nat
  | .ch _ => 0
  | .ru k => hs.getD k 0
noncomputable def Hts (rs : List Rl) : List Nat := rs.foldl (fun hs p => hs ++ [1 + max (ht hs p.1) (ht hs p.2)]) []
theorem Hts_snoc (rs : List Rl) (p : Rl) : Hts (rs ++ [p]) = Hts rs ++ [1 + max (ht (Hts rs) p.1) (ht (Hts rs) p.2)] := by simp [Hts]
theorem Hts_length (rs : List Rl) : (Hts rs).length = rs.length := by
  have : ∀ (rs : List Rl) (hs : List Nat), (rs.foldl (fun hs p => hs ++ [1 + max (ht hs p.1) (ht hs p.2)]) hs).length = hs.length + rs.length := by
    intro rs
    induction rs with
    | nil => intro hs; simp
    | cons p rs ih => intro hs; simp [ih]; omega
  simp [Hts, this]
noncomputable def dp (rs : List Rl) (row : List Sy) : Int := match row.map (fun s => ((ht (Hts rs) s : Nat) : Int)) with
  | [] => 0
  | i :: r => maxI i r

section
variable {tbl : Tbl} {gl : List (String × V)} {cls : Clss} {d : Nat} {H : AH} {Q : V → Prop} {X : String → Prop}

end

end Lib
end

section
set_option autoImplicit false
set_option linter.unusedSimpArgs false
set_option linter.unusedVariables false
namespace Lib
open PySem Mine

section
variable {tbl : Tbl} {gl : List (String × V)} {cls : Clss} {d : Nat} {H : AH} {Q : V → Prop} {X : String → Prop}

end

end Lib
end

section
set_option autoImplicit false
set_option linter.unusedSimpArgs false
set_option linter.unusedVariables false
namespace Lib
open PySem Mine

noncomputable def F_uses : Fn := ⟨1, ["book", "rules", "found", "symbol", "number"], 6,
  (.cons (.expr (.call "need_book" (.cons (.var 0) .nil)))
  (.cons (.assign (.var 1) (.sub (.var 0) (.int 0)))
  (.cons (.own 2 (.thaw (.comp (.int 0) (.var 5) (.seq (.var 1)))))
  (.cons (.for (.var 3) (.seq (.sub (.var 0) (.int 1))) (.cons (.ite (.call "is_whole" (.cons (.var 3) .nil)) (.cons (.setitem (.var 2) (.var 3) (.bin .add (.sub (.var 2) (.var 3)) (.int 1)))
      .nil) .nil)
    .nil))
  (.cons (.for (.var 4) (.range3 (.bin .sub (.len (.var 1)) (.int 1)) (.neg (.int 1)) (.neg (.int 1))) (.cons (.for (.var 3) (.seq (.sub (.var 1) (.var 4))) (.cons (.ite (.call "is_whole" (.cons (.var 3) .nil)) (.cons (.setitem (.var 2) (.var 3) (.bin .add (.sub (.var 2) (.var 3)) (.sub (.var 2) (.var 4))))
        .nil) .nil)
      .nil))
    .nil))
  (.cons (.ret (.var 2))
  .nil))))))⟩
noncomputable def F_law_used : Fn := ⟨2, ["_law_rules", "_law_row_here", "_law_found", "_law_k", "_law_number", "_law_later", "_law_one"], 8,
  (.cons (.own 2 (.thaw (.bin .mul (.list (.cons (.int 0) .nil)) (.len (.var 0)))))
  (.cons (.for (.var 3) (.range1 (.len (.var 0))) (.cons (.assign (.var 4) (.bin .sub (.bin .sub (.len (.var 0)) (.int 1)) (.var 3)))
    (.cons (.setitem (.var 2) (.var 4) (.len (.compIf (.int 1) (.var 7) (.seq (.var 1)) (.and (.not (.isinst (.var 7) .str)) (.cmp (.var 7) (.one .eq (.var 4)))))))
    (.cons (.for (.var 5) (.range2 (.bin .add (.var 4) (.int 1)) (.len (.var 0))) (.cons (.for (.var 6) (.seq (.sub (.var 0) (.var 5))) (.cons (.ite (.and (.not (.isinst (.var 6) .str)) (.cmp (.var 6) (.one .eq (.var 4)))) (.cons (.setitem (.var 2) (.var 4) (.bin .add (.sub (.var 2) (.var 4)) (.sub (.var 2) (.var 5))))
          .nil) .nil)
        .nil))
      .nil))
    .nil))))
  (.cons (.ret (.var 2))
  .nil)))⟩

noncomputable def up (f : Nat → Int) (k : Nat) (x : Int) : Nat → Int := fun j => if j = k then x else f j
noncomputable def fl (n : Nat) (f : Nat → Int) : List V := (List.range n).map fun j => V.int (f j)
theorem fl_length (n : Nat) (f : Nat → Int) : (fl n f).length = n := by simp [fl]
theorem fl_get {n k : Nat} {f : Nat → Int} (h : k < n) : (fl n f)[k]? = some (V.int (f k)) := by simp [fl, h]
theorem fl_set {n k : Nat} {f : Nat → Int} {x : Int} (h : k < n) : (fl n f).set k (V.int x) = fl n (up f k x) := by
  apply List.ext_getElem
  · simp [fl]
  · intro i h1 h2
    simp [fl] at h1 h2
    by_cases e : i = k
    · subst e; simp [fl, up]
    · rw [List.getElem_set_ne (Ne.symm e)]
      simp [fl, up, e]
/-- what a symbol adds to the rule j -/
noncomputable def mt (s : Sy) (j : Nat) (g : Int) : Int := match s with
  | .ch _ => 0
  | .ru k => if k = j then g else 0
noncomputable def cn (row : List Sy) (j : Nat) : Int := (row.map fun s => mt s j 1).sum
noncomputable def rl (rs : List Rl) (t : Nat) : Rl := rs.getD t (.ch 0, .ch 0)
noncomputable def m2 (rs : List Rl) (t j : Nat) (g : Int) : Int := mt (rl rs t).1 j g + mt (rl rs t).2 j g
theorem up_add {f : Nat → Int} {k : Nat} {g : Int} : up f k (f k + g) = fun j => f j + mt (.ru k) j g := by
  funext j
  simp only [up, mt]
  by_cases h : j = k
  · subst h; simp
  · rw [if_neg h, if_neg (Ne.symm h)]; omega
theorem rl_ok {rs : List Rl} (hr : RulesOk rs) {t : Nat} (h : t < rs.length) : (rl rs t).1.ok t ∧ (rl rs t).2.ok t := by
  have hg := List.getElem?_eq_getElem h
  have : rl rs t = rs[t] := by simp [rl, List.getD, hg]
  rw [this]; exact hr t _ hg
theorem downL_cons (m : Nat) : downL (m : Int) (-1) = V.int m :: downL ((m : Int) - 1) (-1) := by
  unfold downL
  have e1 : ((m : Int) - -1).toNat = m + 1 := by omega
  have e2 : ((m : Int) - 1 - -1).toNat = m := by omega
  rw [e1, e2, List.range_succ_eq_map]
  simp only [List.map_cons, List.map_map, List.cons.injEq]
  refine ⟨by simp, List.map_congr_left fun k _ => ?_⟩
  simp only [Function.comp]
  congr 1
  omega
theorem downL_nil : downL (-1) (-1) = [] := by simp [downL]
section
variable {tbl : Tbl} {gl : List (String × V)} {cls : Clss} {d : Nat} {H : AH} {Q : V → Prop} {X : String → Prop}

end

end Lib
end

section
set_option autoImplicit false
set_option linter.unusedSimpArgs false
set_option linter.unusedVariables false
namespace Lib
open PySem
/-! where a word stands in a text put together of two -/
noncomputable def at? (W t : List Nat) (k : Nat) : Bool := decide ((t.drop k).take W.length = W)
noncomputable def occs (W t : List Nat) : List Nat := (List.range t.length).filter (at? W t)
noncomputable def tl (m : Nat) (t : List Nat) : List Nat := t.drop (t.length - m)
noncomputable def near (m : Nat) (a b : List Nat) : List Nat := tl m a ++ b.take m
noncomputable def cross (W : List Nat) (m : Nat) (a b : List Nat) : List Nat := ((List.range (tl m a).length).filter (at? W (near m a b))).map fun k => a.length - (tl m a).length + k
theorem tl_len (m : Nat) (t : List Nat) : (tl m t).length = min m t.length := by rw [tl, List.length_drop]; omega
theorem filter_none {α : Type} {p : α → Bool} {l : List α} (h : ∀ x ∈ l, p x = false) : l.filter p = [] := by
  rw [List.filter_eq_nil_iff]
  intro x hx; rw [h x hx]; exact Bool.false_ne_true
theorem at_short {W t : List Nat} {k : Nat} (h : t.length < k + W.length) (hW : 0 < W.length) : at? W t k = false := by
  refine decide_eq_false fun e => ?_
  have := congrArg List.length e
  rw [List.length_take, List.length_drop] at this
  omega
theorem at_eq {W s t : List Nat} {j k : Nat} (h : (s.drop j).take W.length = (t.drop k).take W.length) : at? W s j = at? W t k := by
  unfold at?; rw [h]
theorem occs_append {W : List Nat} {m : Nat} (hm : W.length = m + 1) (a b : List Nat) : occs W (a ++ b) = occs W a ++ cross W m a b ++ (occs W b).map (a.length + ·) := by
  unfold occs cross
  have hl := tl_len m a
  obtain ⟨p, hp⟩ : ∃ p, a.length = p + (tl m a).length := ⟨a.length - (tl m a).length, by omega⟩
  have htl : tl m a = a.drop p := by rw [tl]; congr 1; omega
  have e1 : ∀ k, at? W (a ++ b) (a.length + k) = at? W b k := fun k => at_eq (by rw [← List.drop_drop, List.drop_left])
  have e2 : ∀ k, k < p → at? W (a ++ b) k = at? W a k := fun k hk => at_eq (by rw [List.drop_append_of_le_length (by omega), List.take_append_of_le_length (by rw [List.length_drop]; omega)])
  have e3 : ∀ j, j < (tl m a).length → at? W (a ++ b) (p + j) = at? W (near m a b) j := fun j hj => at_eq (by
    rw [near, List.drop_append_of_le_length (by omega), List.drop_append_of_le_length (by omega), ← List.drop_drop, ← htl, List.take_append, List.take_append, List.take_take]
    congr 2
    rw [List.length_drop]; omega)
  have e4 : ∀ j, at? W a (p + j) = false := fun j => at_short (by omega) (by omega)
  have h1 : (List.range a.length).filter (at? W a) = (List.range p).filter (at? W a) := by
    rw [hp, List.range_add, List.filter_append, List.filter_map, filter_none (p := at? W a ∘ fun x => p + x) (fun x _ => e4 x), List.map_nil, List.append_nil]
  have h2 : (List.range a.length).filter (at? W (a ++ b)) = (List.range p).filter (at? W a) ++ ((List.range (tl m a).length).filter (at? W (near m a b))).map (p + ·) := by
    rw [hp, List.range_add, List.filter_append, List.filter_map]
    congr 1
    · exact List.filter_congr fun k hk => e2 k (List.mem_range.mp hk)
    · congr 1
      exact List.filter_congr fun j hj => e3 j (List.mem_range.mp hj)
  rw [List.length_append, List.range_add, List.filter_append, List.filter_map, h2, h1]
  congr 2
  · rw [show a.length - (tl m a).length = p by omega]
  · congr 1
    exact funext fun k => e1 k
theorem occs_one {W : List Nat} {c : Nat} (h : 0 < W.length) : occs W [c] = if W = [c] then [0] else [] := by
  unfold occs
  show (List.filter (at? W [c]) [0]) = _
  by_cases e : W = [c]
  · subst e; rw [if_pos rfl]; simp [at?]
  · rw [if_neg e]
    refine filter_none fun x hx => ?_
    rw [List.mem_singleton.mp hx]
    refine decide_eq_false fun q => e ?_
    rw [List.drop_zero] at q
    rw [← q]
    refine List.take_of_length_le ?_
    show 1 ≤ W.length
    exact h
/-- the law's way to find them -/
theorem occs_law {W t : List Nat} {n : Nat} (hW : 0 < W.length) (hn : n ≤ t.length) (hn2 : t.length < n + W.length) : (List.range n).filter (at? W t) = occs W t := by
  unfold occs
  obtain ⟨q, hq⟩ : ∃ q, t.length = n + q := ⟨t.length - n, by omega⟩
  rw [hq, List.range_add, List.filter_append, List.filter_map, filter_none (p := at? W t ∘ fun x => n + x) (fun x _ => at_short (k := n + x) (by omega) hW), List.map_nil, List.append_nil]
/-- heads and tails -/
theorem head_long {m : Nat} {a b : List Nat} (h : m ≤ a.length) : (a ++ b).take m = a.take m := List.take_append_of_le_length h
theorem head_short {m : Nat} {a b : List Nat} (h : a.length < m) : (a.take m ++ b.take m).take m = (a ++ b).take m := by
  rw [List.take_of_length_le (Nat.le_of_lt h), List.take_append, List.take_append, List.take_take]
  congr 2; omega
theorem tail_long {m : Nat} {a b : List Nat} (h : m ≤ b.length) : tl m (a ++ b) = tl m b := by
  unfold tl
  rw [List.length_append, show a.length + b.length - m = a.length + (b.length - m) by omega, ← List.drop_drop, List.drop_left]
theorem tail_short {m : Nat} {a b : List Nat} (h : b.length < m) : (tl m a ++ tl m b).drop ((tl m a ++ tl m b).length - m) = tl m (a ++ b) := by
  have hb : tl m b = b := by rw [tl, show b.length - m = 0 by omega]; rfl
  have hl := tl_len m a
  rw [hb, List.length_append]
  unfold tl at hl ⊢
  rcases Nat.lt_or_ge a.length m with q | q
  · rw [show a.length - m = 0 by omega, List.drop_zero, List.length_append]
  · rw [List.length_append, hl, show min m a.length + b.length - m = b.length by omega, show a.length + b.length - m = (a.length - m) + b.length by omega, ← List.drop_drop, List.drop_append_of_le_length (l₁ := a) (by omega)]
theorem tl_one {m c : Nat} : tl m [c] = [c].take m := by
  cases m with
  | zero => rfl
  | succ m => unfold tl; rw [show [c].length - (m + 1) = 0 by simp]; simp
end Lib
end

section
set_option autoImplicit false
set_option linter.unusedSimpArgs false
set_option linter.unusedVariables false
namespace Lib
open PySem Mine
/-! what an expression gives: small steps, the rest shut -/
noncomputable def Ev (C : Cx) (st : St) (e : E) (w : V) : Prop := ∀ (Q : V → Prop) (X : String → Prop), Q w → WE C e st Q X
noncomputable def Evs (C : Cx) (st : St) (e : Es) (w : List V) : Prop := ∀ (Q : List V → Prop) (X : String → Prop), Q w → WEs C e st Q X
noncomputable def Ec (C : Cx) (st : St) (c : Ch) (u : V) (b : Bool) : Prop := ∀ (Q : Bool → Prop) (X : String → Prop), Q b → WCh C c st u Q X
noncomputable def Cm (H : AH) (op : Cop) (u v : V) (b : Bool) : Prop := ∀ Q : Bool → Prop, Q b → cmpV H op u v Q
noncomputable def Sb (H : AH) (u k w : V) : Prop := ∀ Q : V → Prop, Q w → subV H u k Q
noncomputable def Ca (C : Cx) (f : String) (vs : List V) (H : AH) (w : V) : Prop := ∀ (Q : V → Prop) (X : String → Prop), Q w → C.call f vs H Q X
noncomputable def Ei (C : Cx) (st : St) (it : It) (vs : List V) (ds : List Nat) : Prop := ∀ (Q : List V → List Nat → Prop) (X : String → Prop), Q vs ds → WI C it st Q X
section
variable {C : Cx} {st : St} {ρ : List (Option V)} {H B : AH}
theorem ev_none : Ev C st .none .none := fun _ _ h => h
theorem ev_bool {b : Bool} : Ev C st (.bool b) (.bool b) := fun _ _ h => h
theorem ev_int {i : Int} : Ev C st (.int i) (.int i) := fun _ _ h => h
theorem ev_str {s : Str} : Ev C st (.str s) (.str s) := fun _ _ h => h
theorem ev_var {i : Nat} {v : V} (h : ρ[i]? = some (some v)) : Ev C ⟨ρ, H, B⟩ (.var i) v := fun Q X q => by
  show (match ρ[i]? with
    | some (some v) => Q v
    | _ => False)
  rw [h]; exact q
theorem ev_glob {x : String} {v : V} (h : C.glob x = some v) : Ev C st (.glob x) v := fun Q X q => by
  show (match C.glob x with
    | some v => Q v
    | Option.none => False)
  rw [h]; exact q
theorem ev_bin {op : Bop} {a b : E} {u v w : V} (ha : Ev C st a u) (hb : Ev C st b v) (hw : ∀ Q : V → Prop, Q w → binV st.H op u v Q) : Ev C st (.bin op a b) w := fun Q X q => ha _ _ (hb _ _ (hw _ q))
theorem ev_add {a b : E} {i j : Int} (ha : Ev C st a (.int i)) (hb : Ev C st b (.int j)) : Ev C st (.bin .add a b) (.int (i + j)) := ev_bin ha hb fun _ q => q
theorem ev_sb {a b : E} {i j : Int} (ha : Ev C st a (.int i)) (hb : Ev C st b (.int j)) : Ev C st (.bin .sub a b) (.int (i - j)) := ev_bin ha hb fun _ q => q
theorem ev_fdiv {a b : E} {i j : Int} (ha : Ev C st a (.int i)) (hb : Ev C st b (.int j)) (h : j ≠ 0) : Ev C st (.bin .fdiv a b) (.int (i.fdiv j)) := ev_bin ha hb fun _ q => ⟨h, q⟩
theorem ev_mod {a b : E} {i j : Int} (ha : Ev C st a (.int i)) (hb : Ev C st b (.int j)) (h : j ≠ 0) : Ev C st (.bin .mod a b) (.int (i.fmod j)) := ev_bin ha hb fun _ q => ⟨h, q⟩
theorem ev_mul {a b : E} {i j : Int} (ha : Ev C st a (.int i)) (hb : Ev C st b (.int j)) (h : i.natAbs < 2 ^ 62 ∨ j.natAbs < 2 ^ 62) : Ev C st (.bin .mul a b) (.int (i * j)) := ev_bin ha hb fun _ q => ⟨h, q⟩
theorem ev_mulL {a b : E} {vs : List V} {n : Nat} (ha : Ev C st a (.lst vs)) (hb : Ev C st b (.int n)) (h : (n : Int) < 2 ^ 62) (h2 : vs.length * n ≤ sizeLine) : Ev C st (.bin .mul a b) (.lst (repL n vs)) := ev_bin ha hb fun _ q => ⟨by omega, h, h2, q⟩
theorem ev_cat {a b : E} {s t : Str} (ha : Ev C st a (.str s)) (hb : Ev C st b (.str t)) (h : s.length + t.length ≤ sizeLine) : Ev C st (.bin .add a b) (.str (s ++ t)) := ev_bin ha hb fun _ q => ⟨h, q⟩
theorem ev_catl {a b : E} {x y : List V} (ha : Ev C st a (.lst x)) (hb : Ev C st b (.lst y)) (h : x.length + y.length ≤ sizeLine) : Ev C st (.bin .add a b) (.lst (x ++ y)) := ev_bin ha hb fun _ q => ⟨h, q⟩
theorem ev_neg {a : E} {i : Int} (ha : Ev C st a (.int i)) : Ev C st (.neg a) (.int (-i)) := fun Q X q => ha _ _ q
theorem ev_not {a : E} {b : Bool} (ha : Ev C st a (.bool b)) : Ev C st (.not a) (.bool !b) := fun Q X q => ha _ _ q
theorem ev_and {a b : E} {p q : Bool} (ha : Ev C st a (.bool p)) (hb : p = true → Ev C st b (.bool q)) : Ev C st (.and a b) (.bool (p && q)) := fun Q X h => ha _ _ (by cases p; exact h; exact hb rfl _ _ h)
theorem ev_or {a b : E} {p q : Bool} (ha : Ev C st a (.bool p)) (hb : p = false → Ev C st b (.bool q)) : Ev C st (.or a b) (.bool (p || q)) := fun Q X h => ha _ _ (by cases p; exact hb rfl _ _ h; exact h)
theorem evs_nil : Evs C st .nil [] := fun _ _ q => q
theorem evs_cons {e : E} {es : Es} {v : V} {vs : List V} (h : Ev C st e v) (hs : Evs C st es vs) : Evs C st (.cons e es) (v :: vs) := fun _ _ q => h _ _ (hs _ _ q)
theorem ev_list {es : Es} {vs : List V} (h : Evs C st es vs) (hn : Nat.ble vs.length 16777216 = true) : Ev C st (.list es) (.lst vs) := fun _ _ q => h _ _ ⟨Nat.le_of_ble_eq_true hn, q⟩
theorem ev_tup {es : Es} {vs : List V} (h : Evs C st es vs) (hn : Nat.ble vs.length 16777216 = true) : Ev C st (.tup es) (.tup vs) := fun _ _ q => h _ _ ⟨Nat.le_of_ble_eq_true hn, q⟩
theorem ev_cmp {a : E} {c : Ch} {u : V} {b : Bool} (ha : Ev C st a u) (hc : Ec C st c u b) : Ev C st (.cmp a c) (.bool b) := fun _ _ q => ha _ _ (hc _ _ q)
theorem ec_one {op : Cop} {e : E} {u v : V} {b : Bool} (he : Ev C st e v) (hc : Cm st.H op u v b) : Ec C st (.one op e) u b := fun _ _ q => he _ _ (hc _ q)
theorem ec_more {op : Cop} {e : E} {c : Ch} {u v : V} {p q : Bool} (he : Ev C st e v) (hc : Cm st.H op u v p) (h2 : p = true → Ec C st c v q) : Ec C st (.more op e c) u (p && q) := fun _ _ h => he _ _ (hc _ (by cases p; exact h; exact h2 rfl _ _ h))
theorem cm_lt {i j : Int} : Cm H .lt (.int i) (.int j) (decide (i < j)) := fun _ q => q
theorem cm_le {i j : Int} : Cm H .le (.int i) (.int j) (decide (i ≤ j)) := fun _ q => q
theorem cm_gt {i j : Int} : Cm H .gt (.int i) (.int j) (decide (i > j)) := fun _ q => q
theorem cm_ge {i j : Int} : Cm H .ge (.int i) (.int j) (decide (i ≥ j)) := fun _ q => q
theorem cm_eq {i j : Int} : Cm H .eq (.int i) (.int j) (decide (i = j)) := fun Q q => (show eqV H (.int i) (.int j) Q from by rw [eqV_int]; exact q)
theorem cm_ne {i j : Int} : Cm H .ne (.int i) (.int j) (!decide (i = j)) := fun Q q => (show eqV H (.int i) (.int j) (fun r => Q (!r)) from by rw [eqV_int]; exact q)
theorem cm_is {u : V} : Cm H .is u .none (isNone u) := fun _ q => q
theorem cm_isnot {u : V} : Cm H .isnot u .none (!isNone u) := fun _ q => q
theorem ev_sub {a i : E} {u k w : V} (ha : Ev C st a u) (hi : Ev C st i k) (hs : Sb st.H u k w) : Ev C st (.sub a i) w := fun _ _ q => ha _ _ (hi _ _ (hs _ q))
theorem sb_lst {vs : List V} {n : Nat} {w : V} (h : vs[n]? = some w) : Sb H (.lst vs) (.int n) w := fun Q q => by
  show (match idx vs.length (n : Int) with
    | some n => (match vs[n]? with
      | some v => Q v
      | Option.none => False)
    | Option.none => False)
  rw [idx_nat (List.getElem?_eq_some_iff.mp h).1]
  show (match vs[n]? with
      | some v => Q v
      | Option.none => False)
  rw [h]; exact q
theorem sb_tup {vs : List V} {n : Nat} {w : V} (h : vs[n]? = some w) : Sb H (.tup vs) (.int n) w := fun Q q => sb_lst (H := H) h Q q
theorem sb_ref {a : Nat} {vs : List V} {n : Nat} {w : V} (ha : H a = some (.list vs)) (h : vs[n]? = some w) : Sb H (.ref a) (.int n) w := fun Q q => by
  show (match H a with
    | some (.dict kvs) => _
    | some (.list vs) => _
    | _ => False)
  rw [ha]
  exact sb_lst (H := H) h Q q
theorem ev_call {f : String} {es : Es} {vs : List V} {w : V} (he : Evs C st es vs) (hc : Ca C f vs st.H w) : Ev C st (.call f es) w := fun _ _ q => he _ _ (hc _ _ q)
theorem ev_isi {a : E} {t : Ty} {u : V} {b : Bool} (ha : Ev C st a u) (h : isT st.H t u = some b) : Ev C st (.isinst a t) (.bool b) := fun Q _ q => ha _ _ (by
  show (match isT st.H t u with
    | some b => Q (.bool b)
    | Option.none => False)
  rw [h]; exact q)
theorem ev_len {a : E} {u : V} {n : Nat} (ha : Ev C st a u) (h : sizeV st.H u = some n) : Ev C st (.len a) (.int n) := fun Q _ q => ha _ _ (by
  show (match sizeV st.H u with
    | some n => Q (.int n)
    | Option.none => False)
  rw [h]; exact q)
theorem ev_max2 {a b : E} {i j : Int} (ha : Ev C st a (.int i)) (hb : Ev C st b (.int j)) : Ev C st (.max2 a b) (.int (max i j)) := fun Q _ q => ha _ _ (hb _ _ (by
  show Q (.int (if j > i then j else i))
  rw [show (if j > i then j else i) = max i j from by split <;> omega]; exact q))
theorem ev_min2 {a b : E} {i j : Int} (ha : Ev C st a (.int i)) (hb : Ev C st b (.int j)) : Ev C st (.min2 a b) (.int (min i j)) := fun Q _ q => ha _ _ (hb _ _ (by
  show Q (.int (if j < i then j else i))
  rw [show (if j < i then j else i) = min i j from by split <;> omega]; exact q))
theorem ev_intOf {a : E} {b : Bool} (ha : Ev C st a (.bool b)) : Ev C st (.intOf a) (.int (if b then 1 else 0)) := fun _ _ q => ha _ _ q
theorem ei_seq {e : E} {u : V} {vs : List V} (he : Ev C st e u) (h : itemsV st.H u = some vs) : Ei C st (.seq e) vs (depsV u) := fun Q _ q => he _ _ (by
  show (match itemsV st.H u with
    | some vs => Q vs (depsV u)
    | Option.none => False)
  rw [h]; exact q)
theorem ei_rev {e : E} {u : V} {vs : List V} (he : Ev C st e u) (h : seqL st.H u = some vs) : Ei C st (.rev e) vs.reverse (depsV u) := fun Q _ q => he _ _ (by
  show (match seqL st.H u with
    | some vs => Q vs.reverse (depsV u)
    | Option.none => False)
  rw [h]; exact q)
theorem ei_range1 {e : E} {i : Int} (he : Ev C st e (.int i)) (h : smallI i) : Ei C st (.range1 e) (upL 0 i) [] := fun Q _ q => he _ _ ⟨h, q⟩
theorem ei_range3 {a b c : E} {i j : Int} (ha : Ev C st a (.int i)) (hb : Ev C st b (.int j)) (hc : Ev C st c (.int (-1))) (h : smallI i) (h2 : smallI j) : Ei C st (.range3 a b c) (downL i j) [] := fun Q _ q => ha _ _ (hb _ _ (hc _ _ ⟨h, h2, rfl, q⟩))
theorem ev_listOf {it : It} {vs : List V} {ds : List Nat} (h : Ei C st it vs ds) (hn : vs.length ≤ sizeLine) : Ev C st (.listOf it) (.lst vs) := fun Q _ q => h _ _ ⟨hn, q⟩
theorem ev_join {s a : E} {u : V} {t : Str} {vs : List V} {ss : List Str} (hs : Ev C st s (.str t)) (ha : Ev C st a u) (h1 : seqL st.H u = some vs) (h2 : strsOf vs = some ss) (h3 : lenAll ss + t.length * ss.length ≤ sizeLine) : Ev C st (.join s a) (.str (Str.join t ss)) := fun Q _ q => hs _ _ (ha _ _ (by
  show (match (V.str t), (seqL st.H u).bind strsOf with
    | .str s, some ss => lenAll ss + s.length * ss.length ≤ sizeLine ∧ Q (.str (Str.join s ss))
    | _, _ => False)
  rw [h1]
  show (match (V.str t), strsOf vs with
    | .str s, some ss => lenAll ss + s.length * ss.length ≤ sizeLine ∧ Q (.str (Str.join s ss))
    | _, _ => False)
  rw [h2]; exact ⟨h3, q⟩))
theorem ev_comp {elt : E} {i : Nat} {it : It} {α : Type} {v g : α → V} {r : List α} {ds : List Nat} (hi : Ei C ⟨ρ, H, B⟩ it (r.map v) ds) (hl : r.length ≤ sizeLine) (hlt : i < ρ.length) (he : ∀ x ∈ r, Ev C ⟨ρ.set i (some (v x)), H, B⟩ elt (g x)) : Ev C ⟨ρ, H, B⟩ (.comp elt (.var i) it) (.lst (r.map g)) := fun Q X q => by
  refine hi _ _ ⟨by rw [List.length_map]; exact hl, ?_⟩
  have key : ∀ (r : List α) (K : List V → Prop), (∀ x ∈ r, Ev C ⟨ρ.set i (some (v x)), H, B⟩ elt (g x)) → K (r.map g) → compL (fun x k => match bindT (.var i) x ρ with
        | some ρ' => WE C elt ⟨ρ', H, B⟩ (fun y => k (some y)) (fun _ => False)
        | Option.none => False) (r.map v) K := by
    intro r
    induction r with
    | nil => intro K _ h; exact h
    | cons x r ih =>
      intro K h1 h2
      show (match bindT (.var i) (v x) ρ with
        | some ρ' => WE C elt ⟨ρ', H, B⟩ _ (fun _ => False)
        | Option.none => False)
      have : bindT (.var i) (v x) ρ = some (ρ.set i (some (v x))) := by show putV _ _ _ = _; unfold putV; rw [if_pos hlt]
      rw [this]
      exact h1 x (List.mem_cons_self ..) _ _ (ih _ (fun y hy => h1 y (List.mem_cons_of_mem _ hy)) h2)
  exact key r _ he q
theorem ev_sum {a : E} {u : V} {vs : List V} {is : List Int} (ha : Ev C st a u) (h : seqL st.H u = some vs) (h2 : intsOf vs = some is) : Ev C st (.sum a) (.int is.sum) := fun Q _ q => ha _ _ (by
  show seqP st.H u _
  unfold seqP; rw [h]
  show intsP vs _
  unfold intsP; rw [h2]; exact q)
/-! statements -/
noncomputable def Kn (C : Cx) (r : Bl) (Q : Fl → St → Prop) (X : String → St → Prop) : Fl → St → Prop := fun f st' => match f with
    | .next => WB C r st' Q X
    | f => Q f st'
noncomputable def Fo (C : Cx) (t : Tg) (b r : Bl) (Q : Fl → St → Prop) (X : String → St → Prop) (xs : List V) (st : St) : Prop := forL t (fun st' K => WB C b st' K X) (Kn C r Q X) xs st
noncomputable def Kf (C : Cx) (t : Tg) (b r : Bl) (Q : Fl → St → Prop) (X : String → St → Prop) (xs : List V) : Fl → St → Prop := fun f st' => match f with
      | .next | .cont => Fo C t b r Q X xs st'
      | .brk => Kn C r Q X .next st'
      | .ret v => Kn C r Q X (.ret v) st'
variable {Q : Fl → St → Prop} {X : String → St → Prop} {b r : Bl}
theorem kn_nil (h : WB C r st Q X) : WB C .nil st (Kn C r Q X) X := h
theorem kf_nil {t : Tg} {xs : List V} (h : Fo C t b r Q X xs st) : WB C .nil st (Kf C t b r Q X xs) X := h
theorem w_asg {i : Nat} {e : E} {w : V} (he : Ev C ⟨ρ, H, B⟩ e w) (hi : Nat.blt i ρ.length = true) (hb : WB C b ⟨ρ.set i (some w), H, B⟩ Q X) : WB C (.cons (.assign (.var i) e) b) ⟨ρ, H, B⟩ Q X := he _ _ (by
  show (match (match putV i w ρ with
    | some ρ' => _
    | none => False) with
    | p => p)
  unfold putV; rw [if_pos (Nat.blt_eq.mp hi)]; exact hb)
theorem w_asgt {is : List Nat} {e : E} {vs : List V} {ρ' : List (Option V)} (he : Ev C ⟨ρ, H, B⟩ e (.tup vs)) (hi : setAll is vs ρ = some ρ') (hb : WB C b ⟨ρ', H, B⟩ Q X) : WB C (.cons (.assign (.tup is) e) b) ⟨ρ, H, B⟩ Q X := he _ _ (by
  show (match setAll is vs ρ with
    | some ρ' => WB C b ⟨ρ', H, B⟩ Q X
    | none => False)
  rw [hi]; exact hb)
theorem w_own0 {i : Nat} (hi : Nat.blt i ρ.length = true) (hb : ∀ a, H a = none → B a = none → WB C b ⟨ρ.set i (some (.ref a)), H.upd a (.list []), B⟩ Q X) : WB C (.cons (.own i (.list .nil)) b) ⟨ρ, H, B⟩ Q X := by
  refine ⟨by decide, fun a h1 h2 => ?_⟩
  show (match (match putV i (.ref a) ρ with
    | some ρ' => _
    | none => False) with
    | p => p)
  unfold putV; rw [if_pos (Nat.blt_eq.mp hi)]; exact hb a h1 h2
theorem w_own1 {i : Nat} {e : E} {w : V} (he : Ev C ⟨ρ, H, B⟩ e w) (hi : Nat.blt i ρ.length = true) (hb : ∀ a, H a = none → B a = none → WB C b ⟨ρ.set i (some (.ref a)), H.upd a (.list [w]), B⟩ Q X) : WB C (.cons (.own i (.list (.cons (.pure e) .nil))) b) ⟨ρ, H, B⟩ Q X := by
  refine he _ _ ⟨by show (1 : Nat) ≤ _; decide, fun a h1 h2 => ?_⟩
  show (match (match putV i (.ref a) ρ with
    | some ρ' => _
    | none => False) with
    | p => p)
  unfold putV; rw [if_pos (Nat.blt_eq.mp hi)]; exact hb a h1 h2
theorem w_thaw {i : Nat} {e : E} {vs : List V} (he : Ev C ⟨ρ, H, B⟩ e (.lst vs)) (hi : Nat.blt i ρ.length = true) (hb : ∀ a, H a = none → B a = none → WB C b ⟨ρ.set i (some (.ref a)), H.upd a (.list vs), B⟩ Q X) : WB C (.cons (.own i (.thaw e)) b) ⟨ρ, H, B⟩ Q X := by
  refine he _ _ (fun a h1 => ?_)
  show (match (match putV i (.ref a) ρ with
    | some ρ' => _
    | none => False) with
    | p => p)
  unfold putV; rw [if_pos (Nat.blt_eq.mp hi)]; exact hb a h1.1 h1.2
theorem w_app {i a : Nat} {e : E} {vs : List V} {w : V} (hx : ρ[i]? = some (some (.ref a))) (ha : H a = some (.list vs)) (hB : B a = none) (he : Ev C ⟨ρ, H, B⟩ e w) (hl : vs.length < sizeLine) (hb : WB C b ⟨ρ, H.upd a (.list (vs ++ [w])), B⟩ Q X) : WB C (.cons (.append (.var i) (.pure e)) b) ⟨ρ, H, B⟩ Q X := by
  refine ev_var (C := C) (H := H) (B := B) hx _ (fun x => X x ⟨ρ, H, B⟩) ?_
  show (match H a with
      | some (.list _) => _
      | _ => False)
  rw [ha]
  refine he _ _ ?_
  show (match H a with
        | some (.list vs) => _
        | _ => False)
  rw [ha]
  exact ⟨hB, hl, hb⟩
theorem w_pop {t : Tg} {i a : Nat} {vs : List V} {w : V} {ρ' : List (Option V)} (hx : ρ[i]? = some (some (.ref a))) (ha : H a = some (.list (vs ++ [w]))) (hB : B a = none) (ht : bindT t w ρ = some ρ') (hb : WB C b ⟨ρ', H.upd a (.list vs), B⟩ Q X) : WB C (.cons (.pop t (.var i)) b) ⟨ρ, H, B⟩ Q X := by
  refine ev_var (C := C) (H := H) (B := B) hx _ (fun x => X x ⟨ρ, H, B⟩) ?_
  show (match H a with
      | some (.list vs) => _
      | _ => False)
  rw [ha]
  show (match (vs ++ [w]).getLast? with
        | some w => _
        | none => False)
  rw [List.getLast?_concat]
  refine ⟨hB, ?_⟩
  show (match bindT t w ρ with
          | some ρ' => _
          | none => False)
  rw [ht]
  show WB C b ⟨ρ', H.upd a (.list (vs ++ [w]).dropLast), B⟩ Q X
  rw [List.dropLast_concat]; exact hb
theorem w_set {i a n : Nat} {k v : E} {vs : List V} {w : V} (hv : Ev C ⟨ρ, H, B⟩ v w) (hx : ρ[i]? = some (some (.ref a))) (hk : Ev C ⟨ρ, H, B⟩ k (.int n)) (ha : H a = some (.list vs)) (hB : B a = none) (hn : n < vs.length) (hb : WB C b ⟨ρ, H.upd a (.list (vs.set n w)), B⟩ Q X) : WB C (.cons (.setitem (.var i) k v) b) ⟨ρ, H, B⟩ Q X := by
  refine hv _ _ (ev_var (C := C) (H := H) (B := B) hx _ (fun x => X x ⟨ρ, H, B⟩) (hk _ _ ⟨hB, by omega, vs, ha, by omega, ?_⟩))
  exact hb
theorem w_setl {i a : Nat} {v : E} {vs : List V} {w : V} (hv : Ev C ⟨ρ, H, B⟩ v w) (hx : ρ[i]? = some (some (.ref a))) (ha : H a = some (.list vs)) (hB : B a = none) (hn : vs ≠ []) (hb : WB C b ⟨ρ, H.upd a (.list (vs.set (vs.length - 1) w)), B⟩ Q X) : WB C (.cons (.setlast (.var i) v) b) ⟨ρ, H, B⟩ Q X := by
  refine hv _ _ (ev_var (C := C) (H := H) (B := B) hx _ (fun x => X x ⟨ρ, H, B⟩) ⟨hB, ?_⟩)
  show (match H a with
      | some (.list vs) => _
      | _ => False)
  rw [ha]
  exact ⟨hn, hb⟩
theorem w_if {t : E} {a a' : Bl} (p : Bool) (ht : Ev C st t (.bool p)) (h1 : p = true → WB C a st (Kn C r Q X) X) (h0 : p = false → WB C a' st (Kn C r Q X) X) : WB C (.cons (.ite t a a') r) st Q X := by
  refine ht _ _ ?_
  cases p
  · exact h0 rfl
  · exact h1 rfl
theorem w_ift {t : E} {a a' : Bl} (ht : Ev C st t (.bool true)) (h1 : WB C a st (Kn C r Q X) X) : WB C (.cons (.ite t a a') r) st Q X := ht _ _ h1
theorem w_iff {t : E} {a a' : Bl} (ht : Ev C st t (.bool false)) (h1 : WB C a' st (Kn C r Q X) X) : WB C (.cons (.ite t a a') r) st Q X := ht _ _ h1
theorem w_exp {e : E} {w : V} (he : Ev C st e w) (hb : WB C b st Q X) : WB C (.cons (.expr e) b) st Q X := he _ _ hb
theorem w_ret {e : E} {w : V} (he : Ev C st e w) (h : Q (.ret w) st) : WB C (.cons (.ret e) b) st Q X := he _ _ h
theorem w_for {t : Tg} {it : It} {xs : List V} {ds : List Nat} (hi : Ei C st it xs ds) (hq : quietB b = true ∨ ∀ a ∈ ds, st.B a ≠ Option.none) (h : Fo C t b r Q X xs st) : WB C (.cons (.for t it b) r) st Q X := hi _ _ ⟨hq, h⟩
theorem fo_nil {t : Tg} (h : WB C r st Q X) : Fo C t b r Q X [] st := h
theorem fo_cons {t : Tg} {x : V} {xs : List V} {ρ' : List (Option V)} (hb : bindT t x ρ = some ρ') (h : WB C b ⟨ρ', H, B⟩ (Kf C t b r Q X xs) X) : Fo C t b r Q X (x :: xs) ⟨ρ, H, B⟩ := by
  show (match bindT t x ρ with
    | some ρ' => WB C b ⟨ρ', H, B⟩ (Kf C t b r Q X xs) X
    | Option.none => False)
  rw [hb]; exact h
noncomputable def Wh (C : Cx) (t : E) (b r : Bl) (Q : Fl → St → Prop) (X : String → St → Prop) (n : Nat) (st : St) : Prop := whileN (fun st' K => WE C t st' (fun u => match truthV st'.H u with
      | some r => K r
      | Option.none => False) (fun x => X x st')) (fun st' K => WB C b st' K X) (Kn C r Q X) n st
noncomputable def Kw (C : Cx) (t : E) (b r : Bl) (Q : Fl → St → Prop) (X : String → St → Prop) (n : Nat) : Fl → St → Prop := fun f st' => match f with
      | .next | .cont => Wh C t b r Q X n st'
      | .brk => Kn C r Q X .next st'
      | .ret v => Kn C r Q X (.ret v) st'
theorem w_while {t : E} (n : Nat) (h : Wh C t b r Q X n st) : WB C (.cons (.while t b) r) st Q X := ⟨n, h⟩
theorem kw_nil {t : E} {n : Nat} (h : Wh C t b r Q X n st) : WB C .nil st (Kw C t b r Q X n) X := h
theorem wh_end {t : E} {n : Nat} (ht : Ev C st t (.bool false)) (h : WB C r st Q X) : Wh C t b r Q X (n + 1) st := ht _ _ h
theorem wh_step {t : E} {n : Nat} (ht : Ev C st t (.bool true)) (h : WB C b st (Kw C t b r Q X n) X) : Wh C t b r Q X (n + 1) st := ht _ _ h
end
section
variable {tbl : Tbl} {gl : List (String × V)} {cls : Clss} {d : Nat} {H H' B : AH} {Q : V → Prop} {ρ : List (Option V)}
theorem ca_of {f : String} {fn : Fn} {args : List V} {w : V} (h : tbl.lookup f = some fn) (h1 : args.length = fn.np) (h2 : fn.np ≤ fn.nv)
    (h3 : ∀ (Q : V → Prop) (X : String → Prop), Q w → WB (cxN tbl gl cls d) fn.body ⟨args.map some ++ List.replicate (fn.nv - fn.np) none, H, H⟩ (PK H Q) (fun x _ => X x)) : Ca (cxN tbl gl cls (d + 1)) f args H w := fun Q X q => call_of h h1 h2 (h3 Q X q)
theorem pk_of {v w : V} (h : frz H' H 8 v = some w) (q : Q w) : PK H Q (.ret v) ⟨ρ, H', B⟩ := by
  rw [pk_ret, h]; exact q
end
theorem upd_eq {H : AH} {a : Nat} {o : AO} : (H.upd a o) a = some o := if_pos rfl
theorem upd_ne {H : AH} {a b : Nat} {o : AO} (h : b ≠ a) : (H.upd a o) b = H b := if_neg h
theorem of_upd {H : AH} {a b : Nat} {o o' : AO} (h : (H.upd a o) b = none) : b ≠ a := fun e => by rw [e, upd_eq] at h; cases h
end Lib
end

section
set_option autoImplicit false
namespace L13
open PySem Mine
noncomputable def F_is_whole : Fn := ⟨1, ["thing"], 1,
  (.cons (.ret (.and (.isinst (.var 0) .int) (.not (.isinst (.var 0) .bool))))
  .nil)⟩
noncomputable def F_is_text : Fn := ⟨1, ["thing", "sign"], 2,
  (.cons (.ite (.not (.isinst (.var 0) .str)) (.cons (.ret (.bool false))
    .nil) .nil)
  (.cons (.for (.var 1) (.seq (.var 0)) (.cons (.ite (.cmp (.var 1) (.one .notin (.glob "SIGNS"))) (.cons (.ret (.bool false))
      .nil) .nil)
    .nil))
  (.cons (.ret (.bool true))
  .nil)))⟩
noncomputable def F_is_symbol : Fn := ⟨2, ["thing", "below"], 2,
  (.cons (.ite (.call "is_whole" (.cons (.var 0) .nil)) (.cons (.ret (.cmp (.int 0) (.more .le (.var 0) (.one .lt (.var 1)))))
    .nil) .nil)
  (.cons (.ret (.and (.call "is_text" (.cons (.var 0) .nil)) (.cmp (.len (.var 0)) (.one .eq (.int 1)))))
  .nil))⟩
noncomputable def F_is_rule : Fn := ⟨2, ["rule", "number"], 2,
  (.cons (.ite (.or (.not (.isinst (.var 0) .tuple)) (.cmp (.len (.var 0)) (.one .ne (.int 2)))) (.cons (.ret (.bool false))
    .nil) .nil)
  (.cons (.ret (.and (.call "is_symbol" (.cons (.sub (.var 0) (.int 0)) (.cons (.var 1) .nil))) (.call "is_symbol" (.cons (.sub (.var 0) (.int 1)) (.cons (.var 1) .nil)))))
  .nil))⟩
noncomputable def F_need_book : Fn := ⟨1, ["book", "rules", "row", "number", "symbol"], 5,
  (.cons (.ite (.or (.not (.isinst (.var 0) .tuple)) (.cmp (.len (.var 0)) (.one .ne (.int 2)))) (.cons (.raise "NoBook" (.str (Str.ofString "no pair")))
    .nil) .nil)
  (.cons (.assign (.var 1) (.sub (.var 0) (.int 0)))
  (.cons (.assign (.var 2) (.sub (.var 0) (.int 1)))
  (.cons (.ite (.or (.not (.isinst (.var 1) .list)) (.not (.isinst (.var 2) .list))) (.cons (.raise "NoBook" (.str (Str.ofString "no two lists")))
    .nil) .nil)
  (.cons (.ite (.or (.cmp (.len (.var 1)) (.one .gt (.glob "MOST_RULES"))) (.cmp (.len (.var 2)) (.one .gt (.glob "MOST_ROW")))) (.cons (.raise "NoBook" (.str (Str.ofString "too long")))
    .nil) .nil)
  (.cons (.for (.var 3) (.range1 (.len (.var 1))) (.cons (.ite (.not (.call "is_rule" (.cons (.sub (.var 1) (.var 3)) (.cons (.var 3) .nil)))) (.cons (.raise "NoBook" (.str (Str.ofString "no rule")))
      .nil) .nil)
    .nil))
  (.cons (.for (.var 4) (.seq (.var 2)) (.cons (.ite (.not (.call "is_symbol" (.cons (.var 4) (.cons (.len (.var 1)) .nil)))) (.cons (.raise "NoBook" (.str (Str.ofString "no symbol")))
      .nil) .nil)
    .nil))
  (.cons (.ret (.var 0))
  .nil))))))))⟩
noncomputable def F_length_of : Fn := ⟨2, ["symbol", "sizes"], 2,
  (.cons (.ite (.isinst (.var 0) .str) (.cons (.ret (.int 1))
    .nil) .nil)
  (.cons (.ret (.sub (.var 1) (.var 0)))
  .nil))⟩
noncomputable def F_lengths : Fn := ⟨1, ["book", "sizes", "rule"], 3,
  (.cons (.expr (.call "need_book" (.cons (.var 0) .nil)))
  (.cons (.own 1 (.list .nil))
  (.cons (.for (.var 2) (.seq (.sub (.var 0) (.int 0))) (.cons (.append (.var 1) (.pure (.bin .add (.call "length_of" (.cons (.sub (.var 2) (.int 0)) (.cons (.var 1) .nil))) (.call "length_of" (.cons (.sub (.var 2) (.int 1)) (.cons (.var 1) .nil))))))
    .nil))
  (.cons (.ret (.var 1))
  .nil))))⟩
noncomputable def F_length : Fn := ⟨1, ["book", "sizes"], 3,
  (.cons (.assign (.var 1) (.call "lengths" (.cons (.var 0) .nil)))
  (.cons (.ret (.sum (.comp (.call "length_of" (.cons (.var 2) (.cons (.var 1) .nil))) (.var 2) (.seq (.sub (.var 0) (.int 1))))))
  .nil))⟩
noncomputable def F_height_of : Fn := ⟨2, ["symbol", "heights"], 2,
  (.cons (.ite (.isinst (.var 0) .str) (.cons (.ret (.int 0))
    .nil) .nil)
  (.cons (.ret (.sub (.var 1) (.var 0)))
  .nil))⟩
noncomputable def F_depth : Fn := ⟨1, ["book", "heights", "rule"], 4,
  (.cons (.expr (.call "need_book" (.cons (.var 0) .nil)))
  (.cons (.own 1 (.list .nil))
  (.cons (.for (.var 2) (.seq (.sub (.var 0) (.int 0))) (.cons (.append (.var 1) (.pure (.bin .add (.int 1) (.max2 (.call "height_of" (.cons (.sub (.var 2) (.int 0)) (.cons (.var 1) .nil))) (.call "height_of" (.cons (.sub (.var 2) (.int 1)) (.cons (.var 1) .nil)))))))
    .nil))
  (.cons (.ret (.maxd (.comp (.call "height_of" (.cons (.var 3) (.cons (.var 1) .nil))) (.var 3) (.seq (.sub (.var 0) (.int 1)))) (.int 0)))
  .nil))))⟩
noncomputable def F_uses : Fn := ⟨1, ["book", "rules", "found", "symbol", "number"], 6,
  (.cons (.expr (.call "need_book" (.cons (.var 0) .nil)))
  (.cons (.assign (.var 1) (.sub (.var 0) (.int 0)))
  (.cons (.own 2 (.thaw (.comp (.int 0) (.var 5) (.seq (.var 1)))))
  (.cons (.for (.var 3) (.seq (.sub (.var 0) (.int 1))) (.cons (.ite (.call "is_whole" (.cons (.var 3) .nil)) (.cons (.setitem (.var 2) (.var 3) (.bin .add (.sub (.var 2) (.var 3)) (.int 1)))
      .nil) .nil)
    .nil))
  (.cons (.for (.var 4) (.range3 (.bin .sub (.len (.var 1)) (.int 1)) (.neg (.int 1)) (.neg (.int 1))) (.cons (.for (.var 3) (.seq (.sub (.var 1) (.var 4))) (.cons (.ite (.call "is_whole" (.cons (.var 3) .nil)) (.cons (.setitem (.var 2) (.var 3) (.bin .add (.sub (.var 2) (.var 3)) (.sub (.var 2) (.var 4))))
        .nil) .nil)
      .nil))
    .nil))
  (.cons (.ret (.var 2))
  .nil))))))⟩
noncomputable def F_piece_of : Fn := ⟨2, ["sign", "word", "most", "piece"], 4,
  (.cons (.assign (.var 2) (.bin .sub (.len (.var 1)) (.int 1)))
  (.cons (.own 3 (.new "Piece" (.cons (.int 1) (.cons (.slice (.var 0) .none (.var 2)) (.cons (.slice (.var 0) .none (.var 2)) .nil)))))
  (.cons (.ite (.cmp (.var 0) (.one .eq (.var 1))) (.cons (.setattr (.var 3) "times" (.int 1))
    (.cons (.setattr (.var 3) "first" (.int 0))
    .nil)) .nil)
  (.cons (.ret (.var 3))
  .nil))))⟩
noncomputable def F_crossing : Fn := ⟨3, ["left", "right", "word", "near", "found", "at"], 6,
  (.cons (.assign (.var 3) (.bin .add (.attr (.var 0) "tail") (.attr (.var 1) "head")))
  (.cons (.own 4 (.list .nil))
  (.cons (.for (.var 5) (.range1 (.len (.attr (.var 0) "tail"))) (.cons (.ite (.cmp (.slice (.var 3) (.var 5) (.bin .add (.var 5) (.len (.var 2)))) (.one .eq (.var 2))) (.cons (.append (.var 4) (.pure (.bin .add (.bin .sub (.attr (.var 0) "size") (.len (.attr (.var 0) "tail"))) (.var 5))))
      .nil) .nil)
    .nil))
  (.cons (.ret (.var 4))
  .nil))))⟩
noncomputable def F_two : Fn := ⟨3, ["left", "right", "word", "most", "head", "tail", "piece", "places", "both"], 9,
  (.cons (.assign (.var 3) (.bin .sub (.len (.var 2)) (.int 1)))
  (.cons (.assign (.var 4) (.slice (.bin .add (.attr (.var 0) "head") (.attr (.var 1) "head")) .none (.var 3)))
  (.cons (.ite (.cmp (.attr (.var 0) "size") (.one .ge (.var 3))) (.cons (.assign (.var 4) (.attr (.var 0) "head"))
    .nil) .nil)
  (.cons (.assign (.var 5) (.attr (.var 1) "tail"))
  (.cons (.ite (.cmp (.attr (.var 1) "size") (.one .lt (.var 3))) (.cons (.assign (.var 8) (.bin .add (.attr (.var 0) "tail") (.attr (.var 1) "tail")))
    (.cons (.assign (.var 5) (.slice (.var 8) (.max2 (.int 0) (.bin .sub (.len (.var 8)) (.var 3))) .none))
    .nil)) .nil)
  (.cons (.own 6 (.new "Piece" (.cons (.bin .add (.attr (.var 0) "size") (.attr (.var 1) "size")) (.cons (.var 4) (.cons (.var 5) .nil)))))
  (.cons (.assign (.var 7) (.call "crossing" (.cons (.var 0) (.cons (.var 1) (.cons (.var 2) .nil)))))
  (.cons (.setattr (.var 6) "times" (.bin .add (.bin .add (.attr (.var 0) "times") (.len (.var 7))) (.attr (.var 1) "times")))
  (.cons (.setattr (.var 6) "first" (.attr (.var 0) "first"))
  (.cons (.ite (.and (.cmp (.attr (.var 6) "first") (.one .is .none)) (.cmp (.len (.var 7)) (.one .gt (.int 0)))) (.cons (.setattr (.var 6) "first" (.sub (.var 7) (.int 0)))
    .nil) .nil)
  (.cons (.ite (.and (.cmp (.attr (.var 6) "first") (.one .is .none)) (.cmp (.attr (.var 1) "first") (.one .isnot .none))) (.cons (.setattr (.var 6) "first" (.bin .add (.attr (.var 0) "size") (.attr (.var 1) "first")))
    .nil) .nil)
  (.cons (.ret (.var 6))
  .nil))))))))))))⟩
noncomputable def F_piece_by : Fn := ⟨3, ["symbol", "pieces", "word"], 3,
  (.cons (.ite (.isinst (.var 0) .str) (.cons (.ret (.call "piece_of" (.cons (.var 0) (.cons (.var 2) .nil))))
    .nil) .nil)
  (.cons (.ret (.sub (.var 1) (.var 0)))
  .nil))⟩
noncomputable def F_whole : Fn := ⟨2, ["book", "word", "pieces", "rule", "found", "symbol"], 6,
  (.cons (.expr (.call "need_book" (.cons (.var 0) .nil)))
  (.cons (.ite (.or (.not (.call "is_text" (.cons (.var 1) .nil))) (.not (.cmp (.int 1) (.more .le (.len (.var 1)) (.one .le (.glob "MOST_WORD")))))) (.cons (.raise "NoWord" (.str (Str.ofString "no word of 1 to 200 signs")))
    .nil) .nil)
  (.cons (.own 2 (.list .nil))
  (.cons (.for (.var 3) (.seq (.sub (.var 0) (.int 0))) (.cons (.append (.var 2) (.pure (.call "two" (.cons (.call "piece_by" (.cons (.sub (.var 3) (.int 0)) (.cons (.var 2) (.cons (.var 1) .nil)))) (.cons (.call "piece_by" (.cons (.sub (.var 3) (.int 1)) (.cons (.var 2) (.cons (.var 1) .nil)))) (.cons (.var 1) .nil))))))
    .nil))
  (.cons (.assign (.var 4) (.new "Piece" (.cons (.int 0) (.cons (.str (Str.ofString "")) (.cons (.str (Str.ofString "")) .nil)))))
  (.cons (.for (.var 5) (.seq (.sub (.var 0) (.int 1))) (.cons (.assign (.var 4) (.call "two" (.cons (.var 4) (.cons (.call "piece_by" (.cons (.var 5) (.cons (.var 2) (.cons (.var 1) .nil)))) (.cons (.var 1) .nil)))))
    .nil))
  (.cons (.ret (.var 4))
  .nil)))))))⟩
noncomputable def F_how_often : Fn := ⟨2, ["book", "word"], 2,
  (.cons (.ret (.attr (.call "whole" (.cons (.var 0) (.cons (.var 1) .nil))) "times"))
  .nil)⟩
noncomputable def F_first_place : Fn := ⟨2, ["book", "word"], 2,
  (.cons (.ret (.attr (.call "whole" (.cons (.var 0) (.cons (.var 1) .nil))) "first"))
  .nil)⟩
noncomputable def F_total_of : Fn := ⟨2, ["book", "sizes"], 3,
  (.cons (.ret (.sum (.comp (.call "length_of" (.cons (.var 2) (.cons (.var 1) .nil))) (.var 2) (.seq (.sub (.var 0) (.int 1))))))
  .nil)⟩
noncomputable def F_sign_at : Fn := ⟨2, ["book", "place", "sizes", "at", "symbol", "opened", "rule", "size"], 8,
  (.cons (.assign (.var 2) (.call "lengths" (.cons (.var 0) .nil)))
  (.cons (.ite (.or (.not (.call "is_whole" (.cons (.var 1) .nil))) (.not (.cmp (.int 0) (.more .le (.var 1) (.one .lt (.call "total_of" (.cons (.var 0) (.cons (.var 2) .nil)))))))) (.cons (.raise "NoPlace" (.str (Str.ofString "no such place")))
    .nil) .nil)
  (.cons (.assign (.var 3) (.int 0))
  (.cons (.while (.cmp (.var 1) (.one .ge (.call "length_of" (.cons (.sub (.sub (.var 0) (.int 1)) (.var 3)) (.cons (.var 2) .nil))))) (.cons (.assign (.var 1) (.bin .sub (.var 1) (.call "length_of" (.cons (.sub (.sub (.var 0) (.int 1)) (.var 3)) (.cons (.var 2) .nil)))))
    (.cons (.assign (.var 3) (.bin .add (.var 3) (.int 1)))
    .nil)))
  (.cons (.assign (.var 4) (.sub (.sub (.var 0) (.int 1)) (.var 3)))
  (.cons (.own 5 (.list .nil))
  (.cons (.while (.not (.isinst (.var 4) .str)) (.cons (.append (.var 5) (.pure (.var 4)))
    (.cons (.assign (.var 6) (.sub (.sub (.var 0) (.int 0)) (.var 4)))
    (.cons (.assign (.var 7) (.call "length_of" (.cons (.sub (.var 6) (.int 0)) (.cons (.var 2) .nil))))
    (.cons (.assign (.var 4) (.sub (.var 6) (.int 0)))
    (.cons (.ite (.cmp (.var 1) (.one .ge (.var 7))) (.cons (.assign (.var 1) (.bin .sub (.var 1) (.var 7)))
      (.cons (.assign (.var 4) (.sub (.var 6) (.int 1)))
      .nil)) .nil)
    .nil))))))
  (.cons (.ret (.tup (.cons (.var 4) (.cons (.var 5) .nil))))
  .nil))))))))⟩
noncomputable def F_cut : Fn := ⟨3, ["book", "start", "end", "sizes", "total", "waiting", "behind", "symbol", "signs", "opened", "one", "stop", "rule"], 13,
  (.cons (.assign (.var 3) (.call "lengths" (.cons (.var 0) .nil)))
  (.cons (.assign (.var 4) (.call "total_of" (.cons (.var 0) (.cons (.var 3) .nil))))
  (.cons (.ite (.or (.not (.call "is_whole" (.cons (.var 1) .nil))) (.or (.not (.call "is_whole" (.cons (.var 2) .nil))) (.not (.cmp (.int 0) (.more .le (.var 1) (.more .le (.var 2) (.one .le (.var 4)))))))) (.cons (.raise "NoPlace" (.str (Str.ofString "no such stretch")))
    .nil) .nil)
  (.cons (.own 5 (.list .nil))
  (.cons (.assign (.var 6) (.var 4))
  (.cons (.for (.var 7) (.rev (.sub (.var 0) (.int 1))) (.cons (.assign (.var 6) (.bin .sub (.var 6) (.call "length_of" (.cons (.var 7) (.cons (.var 3) .nil)))))
    (.cons (.append (.var 5) (.pure (.tup (.cons (.var 7) (.cons (.var 6) .nil)))))
    .nil)))
  (.cons (.own 8 (.list .nil))
  (.cons (.assign (.var 9) (.int 0))
  (.cons (.while (.cmp (.len (.var 5)) (.one .gt (.int 0))) (.cons (.pop (.var 10) (.var 5))
    (.cons (.assign (.var 11) (.bin .add (.sub (.var 10) (.int 1)) (.call "length_of" (.cons (.sub (.var 10) (.int 0)) (.cons (.var 3) .nil)))))
    (.cons (.ite (.cmp (.max2 (.sub (.var 10) (.int 1)) (.var 1)) (.one .lt (.min2 (.var 11) (.var 2)))) (.cons (.ite (.isinst (.sub (.var 10) (.int 0)) .str) (.cons (.append (.var 8) (.pure (.sub (.var 10) (.int 0))))
        .nil) (.cons (.assign (.var 9) (.bin .add (.var 9) (.int 1)))
        (.cons (.assign (.var 12) (.sub (.sub (.var 0) (.int 0)) (.sub (.var 10) (.int 0))))
        (.cons (.append (.var 5) (.pure (.tup (.cons (.sub (.var 12) (.int 1)) (.cons (.bin .add (.sub (.var 10) (.int 1)) (.call "length_of" (.cons (.sub (.var 12) (.int 0)) (.cons (.var 3) .nil)))) .nil)))))
        (.cons (.append (.var 5) (.pure (.tup (.cons (.sub (.var 12) (.int 0)) (.cons (.sub (.var 10) (.int 1)) .nil)))))
        .nil)))))
      .nil) .nil)
    .nil))))
  (.cons (.ret (.tup (.cons (.join (.str (Str.ofString "")) (.var 8)) (.cons (.var 9) .nil))))
  .nil))))))))))⟩
noncomputable def F_law_cell_at : Fn := ⟨2, ["_law_script", "_law_k"], 2,
  (.cons (.ite (.cmp (.var 1) (.one .lt (.len (.var 0)))) (.cons (.ret (.sub (.var 0) (.var 1)))
    .nil) .nil)
  (.cons (.ret (.int 0))
  .nil))⟩
noncomputable def F_law_sign_by : Fn := ⟨1, ["_law_cell", "_law_some"], 2,
  (.cons (.assign (.var 1) (.str (Str.ofString " !\"#$&'()*+,-./0123456789:;<=>?@ABCDEFGHIJKLMNOPQRSTUVWXYZ[\\]^_`")))
  (.cons (.assign (.var 1) (.bin .add (.var 1) (.str (Str.ofString "abcdefghijklmnopqrstuvwxyz{|}~\n"))))
  (.cons (.ret (.sub (.var 1) (.bin .mod (.var 0) (.int 95))))
  .nil)))⟩
noncomputable def F_law_size : Fn := ⟨2, ["_law_symbol", "_law_sizes_here"], 2,
  (.cons (.ite (.isinst (.var 0) .str) (.cons (.ret (.int 1))
    .nil) .nil)
  (.cons (.ret (.sub (.var 1) (.var 0)))
  .nil))⟩
noncomputable def F_law_rules : Fn := ⟨3, ["_law_signs", "_law_many", "_law_way_here", "_law_rules_here", "_law_k"], 5,
  (.cons (.own 3 (.list (.cons (.pure (.tup (.cons (.sub (.var 0) (.int 0)) (.cons (.sub (.var 0) (.int 1)) .nil)))) .nil)))
  (.cons (.for (.var 4) (.range1 (.bin .sub (.var 1) (.int 1))) (.cons (.ite (.cmp (.var 2) (.one .eq (.int 0))) (.cons (.append (.var 3) (.pure (.tup (.cons (.var 4) (.cons (.var 4) .nil)))))
      .nil) (.cons (.ite (.cmp (.var 4) (.one .eq (.int 0))) (.cons (.append (.var 3) (.pure (.tup (.cons (.int 0) (.cons (.sub (.var 0) (.int 0)) .nil)))))
        .nil) (.cons (.append (.var 3) (.pure (.tup (.cons (.var 4) (.cons (.bin .sub (.var 4) (.int 1)) .nil)))))
        .nil))
      .nil))
    .nil))
  (.cons (.ret (.var 3))
  .nil)))⟩
noncomputable def F_law_sizes : Fn := ⟨1, ["_law_rules_here", "_law_sizes_here", "_law_one", "_law_other"], 4,
  (.cons (.own 1 (.list .nil))
  (.cons (.for (.tup [2, 3]) (.seq (.var 0)) (.cons (.append (.var 1) (.pure (.bin .add (.call "_law_size" (.cons (.var 2) (.cons (.var 1) .nil))) (.call "_law_size" (.cons (.var 3) (.cons (.var 1) .nil))))))
    .nil))
  (.cons (.ret (.var 1))
  .nil)))⟩
noncomputable def F_law_used : Fn := ⟨2, ["_law_rules_here", "_law_times", "_law_found", "_law_k", "_law_number", "_law_symbol"], 6,
  (.cons (.own 2 (.thaw (.bin .mul (.list (.cons (.int 0) .nil)) (.len (.var 0)))))
  (.cons (.setlast (.var 2) (.var 1))
  (.cons (.for (.var 3) (.range1 (.len (.var 0))) (.cons (.assign (.var 4) (.bin .sub (.bin .sub (.len (.var 0)) (.int 1)) (.var 3)))
    (.cons (.for (.var 5) (.seq (.sub (.var 0) (.var 4))) (.cons (.ite (.not (.isinst (.var 5) .str)) (.cons (.setitem (.var 2) (.var 5) (.bin .add (.sub (.var 2) (.var 5)) (.sub (.var 2) (.var 4))))
        .nil) .nil)
      .nil))
    .nil)))
  (.cons (.ret (.var 2))
  .nil))))⟩
noncomputable def F_law_way : Fn := ⟨4, ["_law_rules_here", "_law_row", "_law_sizes_here", "_law_place_here", "_law_todo", "_law_opened", "_law_k"], 7,
  (.cons (.assign (.var 4) (.var 1))
  (.cons (.own 5 (.list .nil))
  (.cons (.while (.bool true) (.cons (.assign (.var 6) (.int 0))
    (.cons (.while (.cmp (.var 3) (.one .ge (.call "_law_size" (.cons (.sub (.var 4) (.var 6)) (.cons (.var 2) .nil))))) (.cons (.assign (.var 3) (.bin .sub (.var 3) (.call "_law_size" (.cons (.sub (.var 4) (.var 6)) (.cons (.var 2) .nil)))))
      (.cons (.assign (.var 6) (.bin .add (.var 6) (.int 1)))
      .nil)))
    (.cons (.ite (.isinst (.sub (.var 4) (.var 6)) .str) (.cons (.ret (.tup (.cons (.sub (.var 4) (.var 6)) (.cons (.var 5) .nil))))
      .nil) .nil)
    (.cons (.append (.var 5) (.pure (.sub (.var 4) (.var 6))))
    (.cons (.assign (.var 4) (.sub (.var 0) (.sub (.var 4) (.var 6))))
    .nil))))))
  .nil)))⟩
noncomputable def F_law_stretch : Fn := ⟨5, ["_law_rules_here", "_law_row", "_law_sizes_here", "_law_start", "_law_end", "_law_todo", "_law_here", "_law_symbol", "_law_found", "_law_many", "_law_one", "_law_other"], 12,
  (.cons (.own 5 (.list .nil))
  (.cons (.assign (.var 6) (.int 0))
  (.cons (.for (.var 7) (.seq (.var 1)) (.cons (.append (.var 5) (.pure (.tup (.cons (.var 7) (.cons (.var 6) .nil)))))
    (.cons (.assign (.var 6) (.bin .add (.var 6) (.call "_law_size" (.cons (.var 7) (.cons (.var 2) .nil)))))
    .nil)))
  (.cons (.own 5 (.thaw (.listOf (.rev (.var 5)))))
  (.cons (.own 8 (.list .nil))
  (.cons (.assign (.var 9) (.int 0))
  (.cons (.while (.cmp (.len (.var 5)) (.one .gt (.int 0))) (.cons (.pop (.tup [7, 6]) (.var 5))
    (.cons (.ite (.and (.cmp (.var 6) (.one .lt (.var 4))) (.and (.cmp (.bin .add (.var 6) (.call "_law_size" (.cons (.var 7) (.cons (.var 2) .nil)))) (.one .gt (.var 3))) (.isinst (.var 7) .str))) (.cons (.append (.var 8) (.pure (.var 7)))
      .nil) (.cons (.ite (.and (.cmp (.var 6) (.one .lt (.var 4))) (.cmp (.bin .add (.var 6) (.call "_law_size" (.cons (.var 7) (.cons (.var 2) .nil)))) (.one .gt (.var 3)))) (.cons (.assign (.var 9) (.bin .add (.var 9) (.int 1)))
        (.cons (.assign (.tup [10, 11]) (.sub (.var 0) (.var 7)))
        (.cons (.append (.var 5) (.pure (.tup (.cons (.var 11) (.cons (.bin .add (.var 6) (.call "_law_size" (.cons (.var 10) (.cons (.var 2) .nil)))) .nil)))))
        (.cons (.append (.var 5) (.pure (.tup (.cons (.var 10) (.cons (.var 6) .nil)))))
        .nil)))) .nil)
      .nil))
    .nil)))
  (.cons (.ret (.tup (.cons (.join (.str (Str.ofString "")) (.var 8)) (.cons (.var 9) .nil))))
  .nil))))))))⟩
noncomputable def F_law_both : Fn := ⟨3, ["_law_one", "_law_other", "_law_word", "_law_many", "_law_where"], 5,
  (.cons (.assign (.var 3) (.bin .add (.bin .add (.sub (.var 0) (.int 0)) (.sub (.var 1) (.int 0))) (.intOf (.cmp (.bin .add (.sub (.var 0) (.int 4)) (.sub (.var 1) (.int 3))) (.one .eq (.var 2))))))
  (.cons (.assign (.var 4) (.sub (.var 0) (.int 1)))
  (.cons (.ite (.and (.cmp (.var 4) (.one .is .none)) (.cmp (.bin .add (.sub (.var 0) (.int 4)) (.sub (.var 1) (.int 3))) (.one .eq (.var 2)))) (.cons (.assign (.var 4) (.bin .sub (.sub (.var 0) (.int 2)) (.int 1)))
    .nil) .nil)
  (.cons (.ite (.and (.cmp (.var 4) (.one .is .none)) (.cmp (.sub (.var 1) (.int 1)) (.one .isnot .none))) (.cons (.assign (.var 4) (.bin .add (.sub (.var 0) (.int 2)) (.sub (.var 1) (.int 1))))
    .nil) .nil)
  (.cons (.ret (.tup (.cons (.var 3) (.cons (.var 4) (.cons (.bin .add (.sub (.var 0) (.int 2)) (.sub (.var 1) (.int 2))) (.cons (.sub (.var 0) (.int 3)) (.cons (.sub (.var 1) (.int 4)) .nil)))))))
  .nil)))))⟩
noncomputable def F_law_known : Fn := ⟨2, ["_law_symbol", "_law_known_here"], 2,
  (.cons (.ite (.isinst (.var 0) .str) (.cons (.ret (.tup (.cons (.int 0) (.cons .none (.cons (.int 1) (.cons (.var 0) (.cons (.var 0) .nil)))))))
    .nil) .nil)
  (.cons (.ret (.sub (.var 1) (.var 0)))
  .nil))⟩
noncomputable def F_law_pairs : Fn := ⟨3, ["_law_rules_here", "_law_row", "_law_word", "_law_known_here", "_law_found", "_law_symbol", "_law_one", "_law_other"], 8,
  (.cons (.own 3 (.list .nil))
  (.cons (.for (.tup [6, 7]) (.seq (.var 0)) (.cons (.append (.var 3) (.pure (.call "_law_both" (.cons (.call "_law_known" (.cons (.var 6) (.cons (.var 3) .nil))) (.cons (.call "_law_known" (.cons (.var 7) (.cons (.var 3) .nil))) (.cons (.var 2) .nil))))))
    .nil))
  (.cons (.assign (.var 4) (.call "_law_known" (.cons (.sub (.var 1) (.int 0)) (.cons (.var 3) .nil))))
  (.cons (.for (.var 5) (.seq (.slice (.var 1) (.int 1) .none)) (.cons (.assign (.var 4) (.call "_law_both" (.cons (.var 4) (.cons (.call "_law_known" (.cons (.var 5) (.cons (.var 3) .nil))) (.cons (.var 2) .nil)))))
    .nil))
  (.cons (.ret (.tup (.cons (.sub (.var 4) (.int 0)) (.cons (.sub (.var 4) (.int 1)) .nil))))
  .nil)))))⟩
noncomputable def F_law_turns : Fn := ⟨4, ["_law_signs", "_law_ahead", "_law_total", "_law_cell", "_law_size_here", "_law_word", "_law_inner", "_law_many", "_law_place_here"], 9,
  (.cons (.assign (.var 4) (.bin .add (.int 1) (.bin .mod (.bin .fdiv (.var 3) (.int 2)) (.int 200))))
  (.cons (.assign (.var 5) (.slice (.bin .mul (.var 0) (.int 101)) (.bin .mod (.var 3) (.int 2)) (.bin .add (.bin .mod (.var 3) (.int 2)) (.var 4))))
  (.cons (.assign (.var 6) (.bin .sub (.bin .add (.bin .sub (.var 2) (.var 4)) (.int 1)) (.bin .mod (.var 3) (.int 2))))
  (.cons (.assign (.var 7) (.max2 (.int 0) (.bin .fdiv (.bin .add (.var 6) (.int 1)) (.int 2))))
  (.cons (.assign (.var 8) .none)
  (.cons (.ite (.cmp (.var 7) (.one .gt (.int 0))) (.cons (.assign (.var 8) (.bin .add (.len (.var 1)) (.bin .mod (.var 3) (.int 2))))
    .nil) .nil)
  (.cons (.ret (.tup (.cons (.var 5) (.cons (.var 7) (.cons (.var 8) .nil)))))
  .nil)))))))⟩
noncomputable def F_law_place : Fn := ⟨2, ["_law_cell", "_law_whole_here", "_law_near"], 3,
  (.cons (.assign (.var 2) (.list (.cons (.bin .mod (.bin .fdiv (.var 0) (.int 4)) (.int 70)) (.cons (.bin .sub (.bin .sub (.var 1) (.int 1)) (.bin .mod (.bin .fdiv (.var 0) (.int 4)) (.int 70))) (.cons (.bin .sub (.bin .add (.bin .fdiv (.var 1) (.int 2)) (.bin .mod (.bin .fdiv (.var 0) (.int 4)) (.int 70))) (.int 35)) (.cons (.bin .mod (.bin .fdiv (.var 0) (.int 4)) (.var 1)) .nil))))))
  (.cons (.ret (.max2 (.int 0) (.min2 (.bin .sub (.var 1) (.int 1)) (.sub (.var 2) (.bin .mod (.var 0) (.int 4))))))
  .nil))⟩
noncomputable def F_law_looked : Fn := ⟨4, ["_law_book", "_law_sizes_here", "_law_whole_here", "_law_script", "_law_place_here", "_law_end", "_law_found"], 7,
  (.cons (.assign (.var 4) (.call "_law_place" (.cons (.call "_law_cell_at" (.cons (.var 3) (.cons (.int 4) .nil))) (.cons (.var 2) .nil))))
  (.cons (.ite (.cmp (.call "sign_at" (.cons (.var 0) (.cons (.var 4) .nil))) (.one .ne (.call "_law_way" (.cons (.sub (.var 0) (.int 0)) (.cons (.sub (.var 0) (.int 1)) (.cons (.var 1) (.cons (.var 4) .nil))))))) (.cons (.ret (.bool false))
    .nil) .nil)
  (.cons (.assign (.var 5) (.min2 (.var 2) (.bin .add (.var 4) (.bin .mod (.bin .fdiv (.call "_law_cell_at" (.cons (.var 3) (.cons (.int 5) .nil))) (.int 10)) (.sub (.list (.cons (.int 61) (.cons (.int 3001) .nil))) (.intOf (.cmp (.bin .mod (.call "_law_cell_at" (.cons (.var 3) (.cons (.int 5) .nil))) (.int 10)) (.one .eq (.int 7)))))))))
  (.cons (.assign (.var 6) (.call "cut" (.cons (.var 0) (.cons (.var 4) (.cons (.var 5) .nil)))))
  (.cons (.ite (.cmp (.var 4) (.one .eq (.var 5))) (.cons (.ret (.cmp (.var 6) (.one .eq (.tup (.cons (.str (Str.ofString "")) (.cons (.int 0) .nil))))))
    .nil) .nil)
  (.cons (.ret (.cmp (.var 6) (.one .eq (.call "_law_stretch" (.cons (.sub (.var 0) (.int 0)) (.cons (.sub (.var 0) (.int 1)) (.cons (.var 1) (.cons (.var 4) (.cons (.var 5) .nil)))))))))
  .nil))))))⟩
noncomputable def F_law : Fn := ⟨1, ["_law_script", "_law_first", "_law_signs", "_law_third", "_law_second", "_law_ahead", "_law_many", "_law_way_here", "_law_times", "_law_rules_here", "_law_sizes_here", "_law_book", "_law_whole_here", "_law_third_cell", "_law_word", "_law_often", "_law_where"], 17,
  (.cons (.assign (.var 1) (.call "_law_cell_at" (.cons (.var 0) (.cons (.int 0) .nil))))
  (.cons (.assign (.var 2) (.bin .add (.call "_law_sign_by" (.cons (.var 1) .nil)) (.call "_law_sign_by" (.cons (.bin .add (.bin .add (.var 1) (.int 1)) (.bin .mod (.bin .fdiv (.var 1) (.int 95)) (.int 93))) .nil))))
  (.cons (.assign (.var 3) (.call "_law_sign_by" (.cons (.bin .add (.var 1) (.int 94)) .nil)))
  (.cons (.assign (.var 4) (.call "_law_cell_at" (.cons (.var 0) (.cons (.int 1) .nil))))
  (.cons (.assign (.var 5) (.sub (.list (.cons (.str (Str.ofString "")) (.cons (.var 3) .nil))) (.bin .mod (.var 4) (.int 2))))
  (.cons (.assign (.var 6) (.bin .add (.int 2) (.bin .mod (.bin .fdiv (.var 4) (.int 32)) (.sub (.list (.cons (.int 59) (.cons (.int 299) .nil))) (.intOf (.cmp (.bin .mod (.bin .fdiv (.var 4) (.int 2)) (.int 8)) (.one .eq (.int 3))))))))
  (.cons (.assign (.var 7) (.bin .mod (.bin .fdiv (.var 4) (.int 16)) (.int 2)))
  (.cons (.assign (.var 8) (.bin .mod (.call "_law_cell_at" (.cons (.var 0) (.cons (.int 2) .nil))) (.int 6)))
  (.cons (.assign (.var 9) (.call "_law_rules" (.cons (.var 2) (.cons (.var 6) (.cons (.var 7) .nil)))))
  (.cons (.assign (.var 10) (.call "_law_sizes" (.cons (.var 9) .nil)))
  (.cons (.assign (.var 11) (.tup (.cons (.var 9) (.cons (.bin .add (.listOf (.seq (.var 5))) (.bin .mul (.list (.cons (.bin .sub (.var 6) (.int 1)) .nil)) (.var 8))) .nil))))
  (.cons (.assign (.var 12) (.bin .add (.len (.var 5)) (.bin .mul (.var 8) (.sub (.var 10) (.neg (.int 1))))))
  (.cons (.ite (.or (.cmp (.call "length" (.cons (.var 11) .nil)) (.one .ne (.var 12))) (.or (.cmp (.call "lengths" (.cons (.var 11) .nil)) (.one .ne (.var 10))) (.cmp (.call "uses" (.cons (.var 11) .nil)) (.one .ne (.call "_law_used" (.cons (.var 9) (.cons (.var 8) .nil))))))) (.cons (.ret (.bool false))
    .nil) .nil)
  (.cons (.ite (.cmp (.call "depth" (.cons (.var 11) .nil)) (.one .ne (.bin .mul (.var 6) (.intOf (.cmp (.var 8) (.one .gt (.int 0))))))) (.cons (.ret (.bool false))
    .nil) .nil)
  (.cons (.assign (.var 13) (.call "_law_cell_at" (.cons (.var 0) (.cons (.int 3) .nil))))
  (.cons (.ite (.and (.cmp (.var 7) (.one .eq (.int 0))) (.cmp (.var 6) (.one .lt (.int 61)))) (.cons (.assign (.tup [14, 15, 16]) (.call "_law_turns" (.cons (.var 2) (.cons (.var 5) (.cons (.bin .mul (.var 8) (.sub (.var 10) (.neg (.int 1)))) (.cons (.var 13) .nil))))))
    (.cons (.ite (.or (.cmp (.call "how_often" (.cons (.var 11) (.cons (.var 14) .nil))) (.one .ne (.var 15))) (.cmp (.call "first_place" (.cons (.var 11) (.cons (.var 14) .nil))) (.one .ne (.var 16)))) (.cons (.ret (.bool false))
      .nil) .nil)
    .nil)) .nil)
  (.cons (.ite (.cmp (.var 12) (.one .eq (.int 0))) (.cons (.ret (.cmp (.call "cut" (.cons (.var 11) (.cons (.int 0) (.cons (.int 0) .nil)))) (.one .eq (.tup (.cons (.str (Str.ofString "")) (.cons (.int 0) .nil))))))
    .nil) .nil)
  (.cons (.assign (.var 14) (.bin .add (.sub (.bin .add (.var 2) (.var 3)) (.bin .mod (.var 13) (.int 3))) (.sub (.bin .add (.var 2) (.var 3)) (.bin .mod (.bin .fdiv (.var 13) (.int 3)) (.int 3)))))
  (.cons (.ite (.cmp (.tup (.cons (.call "how_often" (.cons (.var 11) (.cons (.var 14) .nil))) (.cons (.call "first_place" (.cons (.var 11) (.cons (.var 14) .nil))) .nil))) (.one .ne (.call "_law_pairs" (.cons (.var 9) (.cons (.sub (.var 11) (.int 1)) (.cons (.var 14) .nil)))))) (.cons (.ret (.bool false))
    .nil) .nil)
  (.cons (.ret (.call "_law_looked" (.cons (.var 11) (.cons (.var 10) (.cons (.var 12) (.cons (.var 0) .nil))))))
  .nil))))))))))))))))))))⟩
noncomputable def tbl : Tbl := [("is_whole", F_is_whole), ("is_text", F_is_text), ("is_symbol", F_is_symbol), ("is_rule", F_is_rule), ("need_book", F_need_book), ("length_of", F_length_of), ("lengths", F_lengths), ("length", F_length), ("height_of", F_height_of), ("depth", F_depth), ("uses", F_uses), ("piece_of", F_piece_of), ("crossing", F_crossing), ("two", F_two), ("piece_by", F_piece_by), ("whole", F_whole), ("how_often", F_how_often), ("first_place", F_first_place), ("total_of", F_total_of), ("sign_at", F_sign_at), ("cut", F_cut), ("_law_cell_at", F_law_cell_at), ("_law_sign_by", F_law_sign_by), ("_law_size", F_law_size), ("_law_rules", F_law_rules), ("_law_sizes", F_law_sizes), ("_law_used", F_law_used), ("_law_way", F_law_way), ("_law_stretch", F_law_stretch), ("_law_both", F_law_both), ("_law_known", F_law_known), ("_law_pairs", F_law_pairs), ("_law_turns", F_law_turns), ("_law_place", F_law_place), ("_law_looked", F_law_looked), ("law", F_law)]
noncomputable def gtab : List (String × V) := [("SIGNS", .str (Str.ofString " !\"#$&'()*+,-./0123456789:;<=>?@ABCDEFGHIJKLMNOPQRSTUVWXYZ[\\]^_`abcdefghijklmnopqrstuvwxyz{|}~\n")), ("MOST_RULES", .int 600), ("MOST_ROW", .int 2000), ("MOST_WORD", .int 200)]
noncomputable def ctab (ad : Nat) : Clss := [("Piece", ad, 3, [("size", .arg 0), ("head", .arg 1), ("tail", .arg 2), ("times", .val (.int 0)), ("first", .val .none)])]
end L13
end

section
set_option autoImplicit false
set_option linter.unusedSimpArgs false
set_option linter.unusedVariables false
namespace Lib
open PySem Mine
/-! law 13: walks by reckoning -/
noncomputable abbrev C3 (ad d : Nat) : Cx := cxN L13.tbl L13.gtab (L13.ctab ad) d
section
variable {C : Cx} {ρ : List (Option V)} {H H' B : AH} {Q : V → Prop} {X X' X'' : String → St → Prop} {b b' r r' : Bl} {t : Tg} {xs : List V} {e : E} {w w' : V}
theorem r1 (he : Ev C ⟨ρ, H', B⟩ e w) (hf : frz H' H 8 w = some w') (q : Q w') : WB C (.cons (.ret e) b) ⟨ρ, H', B⟩ (PK H Q) X := w_ret he (pk_of hf q)
theorem r2 (he : Ev C ⟨ρ, H', B⟩ e w) (hf : frz H' H 8 w = some w') (q : Q w') : WB C (.cons (.ret e) b) ⟨ρ, H', B⟩ (Kn C r (PK H Q) X') X := w_ret he (show PK H Q (.ret w) ⟨ρ, H', B⟩ from pk_of hf q)
end
theorem mapO_same {f : V → Option V} : ∀ {l : List V}, (∀ v ∈ l, f v = some v) → mapO f l = some l
  | [], _ => rfl
  | v :: l, h => by
    show (match f v, mapO f l with
      | some x, some xs => some (x :: xs)
      | _, _ => none) = _
    rw [h v (List.mem_cons_self ..), mapO_same fun u hu => h u (List.mem_cons_of_mem _ hu)]
structure Bk (rs : List Rl) (row : List Sy) : Prop where
  r : RulesOk rs
  w : RowOk rs.length row
  n : rs.length ≤ 600
  m : row.length ≤ 2000
section
variable {ad d : Nat} {H : AH} {rs : List Rl} {row : List Sy}
theorem frz_lst {n : Nat} {l : List V} {H' : AH} (h : ∀ v ∈ l, frz H' H n v = some v) : frz H' H (n + 1) (.lst l) = some (.lst l) := by
  show (mapO (frz H' H n) l).map V.lst = _
  rw [mapO_same h]; rfl
theorem frz_ref {n a : Nat} {l : List V} {H' : AH} (h0 : H a = none) (h1 : H' a = some (.list l)) (h : ∀ v ∈ l, frz H' H n v = some v) : frz H' H (n + 1) (.ref a) = some (.lst l) := by
  show (match H a with
    | some _ => some (V.ref a)
    | none => (match H' a with
      | some (.list vs) => (mapO (frz H' H n) vs).map V.lst
      | _ => none)) = _
  rw [h0, h1]
  exact frz_lst (n := n) h
theorem frz_two {n : Nat} {x y x' y' : V} {H' : AH} (h1 : frz H' H n x = some x') (h2 : frz H' H n y = some y') : frz H' H (n + 1) (.tup [x, y]) = some (.tup [x', y']) := by
  show (match frz H' H n x, mapO (frz H' H n) [y] with
    | some x, some xs => some (x :: xs)
    | _, _ => none).map V.tup = _
  have : mapO (frz H' H n) [y] = some [y'] := by
    show (match frz H' H n y, some ([] : List V) with
      | some x, some xs => some (x :: xs)
      | _, _ => none) = _
    rw [h2]
  rw [h1, this]; rfl
theorem fz_sy {n : Nat} {H' : AH} (s : Sy) : frz H' H (n + 1) s.v = some s.v := by cases s <;> rfl
theorem fz_pv {n : Nat} {H' : AH} (p : Rl) : frz H' H (n + 2) (pv p) = some (pv p) := frz_two (fz_sy _) (fz_sy _)
theorem fz_row {n : Nat} {H' : AH} : ∀ v ∈ row.map Sy.v, frz H' H (n + 1) v = some v := fun v hv => by obtain ⟨s, _, rfl⟩ := List.mem_map.mp hv; exact fz_sy s
theorem fz_rules {n : Nat} {H' : AH} : ∀ v ∈ rs.map pv, frz H' H (n + 2) v = some v := fun v hv => by obtain ⟨s, _, rfl⟩ := List.mem_map.mp hv; exact fz_pv s
theorem fz_bk {H' : AH} : frz H' H 8 (bookV rs row) = some (bookV rs row) := frz_two (frz_lst fz_rules) (frz_lst fz_row)
/-! need_book on a good book -/
noncomputable def txB : Bl := .cons (.ite (.cmp (.var 1) (.one .notin (.glob "SIGNS"))) (.cons (.ret (.bool false)) .nil) .nil) .nil
theorem tx_loop {Q : V → Prop} {X : String → St → Prop} {v0 : V} (q : Q (.bool true)) : ∀ (l : List Nat) (x : Option V), (∀ c ∈ l, c ∈ SG) → Fo (C3 ad d) (.var 1) txB (.cons (.ret (.bool true)) .nil) (PK H Q) X (l.map fun c => .str ⟨#[c]⟩) ⟨[some v0, x], H, H⟩
  | [], x, _ => fo_nil (r1 ev_bool rfl q)
  | c :: l, x, h => by
    have e : (!hasSub SIGNS ⟨#[c]⟩) = false := by rw [has_sign c (h c (List.mem_cons_self ..))]; rfl
    exact fo_cons (ρ' := [some v0, some (.str ⟨#[c]⟩)]) rfl (w_iff (e ▸ ev_cmp (ev_var rfl) (ec_one (ev_glob (v := .str SIGNS) rfl) fun _ q => q)) (kn_nil (kf_nil (tx_loop q l _ fun c hc => h c (List.mem_cons_of_mem _ hc)))))
theorem tx_ok {l : List Nat} (h : ∀ c ∈ l, c ∈ SG) : Ca (C3 ad (d + 1)) "is_text" [lst l] H (.bool true) := ca_of (fn := L13.F_is_text) rfl rfl (by decide) fun Q X q => w_iff (fun _ _ q => q) (kn_nil (w_for (ei_seq (vs := l.map fun c => .str ⟨#[c]⟩) (ev_var rfl) rfl) (.inl rfl) (tx_loop q l none h)))
theorem pair_no {C : Cx} {ρ : List (Option V)} {B : AH} {a b : V} (h : ρ[0]? = some (some (.tup [a, b]))) : Ev C ⟨ρ, H, B⟩ (.or (.not (.isinst (.var 0) .tuple)) (.cmp (.len (.var 0)) (.one .ne (.int 2)))) (.bool false) := ev_or (p := false) (q := false) (ev_not (b := true) (ev_isi (ev_var h) rfl)) fun _ => ev_cmp (ev_len (n := 2) (ev_var h) rfl) (ec_one ev_int cm_ne)
theorem wh_ch {s : Str} : Ca (C3 ad (d + 1)) "is_whole" [.str s] H (.bool false) := ca_of (fn := L13.F_is_whole) rfl rfl (by decide) fun _ _ q => q
theorem wh_nt {i : Int} : Ca (C3 ad (d + 1)) "is_whole" [.int i] H (.bool true) := ca_of (fn := L13.F_is_whole) rfl rfl (by decide) fun _ _ q => q
theorem sy_ok {s : Sy} {n : Nat} (h : s.ok n) : Ca (C3 ad (d + 2)) "is_symbol" [s.v, .int n] H (.bool true) := ca_of (fn := L13.F_is_symbol) rfl rfl (by decide) fun Q X q => by
  cases s with
  | ch c => exact w_iff (fun _ _ q => wh_ch _ _ q) (kn_nil (r1 (ev_and (p := true) (q := true) (fun _ _ q => tx_ok (l := [c]) (fun x hx => List.mem_singleton.mp hx ▸ h) _ _ q) fun _ => ev_cmp (ev_len (n := 1) (ev_var rfl) rfl) (ec_one ev_int cm_eq)) rfl q))
  | ru k =>
    have q : Q (.bool (decide ((0 : Int) ≤ k) && decide ((k : Int) < n))) := by rw [decide_eq_true (Int.natCast_nonneg k), decide_eq_true (Int.ofNat_lt.mpr h)]; exact q
    exact w_ift (fun _ _ q => wh_nt _ _ q) (r2 (ev_cmp ev_int (ec_more (ev_var rfl) cm_le fun _ => ec_one (ev_var rfl) cm_lt)) rfl q)
theorem ru_ok {p : Rl} {n : Nat} (h : p.1.ok n ∧ p.2.ok n) : Ca (C3 ad (d + 3)) "is_rule" [pv p, .int n] H (.bool true) := ca_of (fn := L13.F_is_rule) rfl rfl (by decide) fun Q X q => w_iff (pair_no rfl) (kn_nil (r1 (w := .bool true) (fun _ _ q => sy_ok h.1 _ _ (sy_ok h.2 _ _ q)) rfl q))
section
variable {Q : Fl → St → Prop} {X : String → St → Prop} {r : Bl} {v0 v2 : V}
noncomputable def nbR : Bl := .cons (.ite (.not (.call "is_rule" (.cons (.sub (.var 1) (.var 3)) (.cons (.var 3) .nil)))) (.cons (.raise "NoBook" (.str (Str.ofString "no rule"))) .nil) .nil) .nil
noncomputable def nbS : Bl := .cons (.ite (.not (.call "is_symbol" (.cons (.var 4) (.cons (.len (.var 1)) .nil)))) (.cons (.raise "NoBook" (.str (Str.ofString "no symbol"))) .nil) .nil) .nil
theorem lp_ru (h : RulesOk rs) (hr : ∀ x, WB (C3 ad (d + 3)) r ⟨[some v0, some (.lst (rs.map pv)), some v2, x, none], H, H⟩ Q X) : ∀ (m k : Nat) (x : Option V), k + m = rs.length → Fo (C3 ad (d + 3)) (.var 3) nbR r Q X (upL k rs.length) ⟨[some v0, some (.lst (rs.map pv)), some v2, x, none], H, H⟩
  | 0, k, x, e => by rw [upL_nil (by omega)]; exact fo_nil (hr x)
  | m + 1, k, x, e => by
    have hk : k < rs.length := by omega
    have hg := List.getElem?_eq_getElem hk
    rw [upL_cons (Int.ofNat_lt.mpr hk)]
    exact fo_cons (ρ' := [some v0, some (.lst (rs.map pv)), some v2, some (.int k), none]) rfl (w_iff (fun _ _ q => sb_lst (H := H) (by rw [List.getElem?_map, hg]; rfl) _ (ru_ok (h k _ hg) _ _ q)) (kn_nil (kf_nil (lp_ru h hr m (k + 1) _ (by omega)))))
theorem lp_sy {x3 : Option V} (hr : ∀ x, WB (C3 ad (d + 3)) r ⟨[some v0, some (.lst (rs.map pv)), some v2, x3, x], H, H⟩ Q X) : ∀ (ks : List Sy) (x : Option V), RowOk rs.length ks → Fo (C3 ad (d + 3)) (.var 4) nbS r Q X (ks.map Sy.v) ⟨[some v0, some (.lst (rs.map pv)), some v2, x3, x], H, H⟩
  | [], x, _ => fo_nil (hr x)
  | k :: ks, x, h => fo_cons (ρ' := [some v0, some (.lst (rs.map pv)), some v2, x3, some k.v]) rfl (w_iff (ev_not (b := true) (ev_call (evs_cons (ev_var rfl) (evs_cons (ev_len (n := rs.length) (ev_var rfl) (show some (rs.map pv).length = _ from congrArg some (List.length_map ..))) evs_nil)) (sy_ok (d := d + 1) (h k (List.mem_cons_self ..))))) (kn_nil (kf_nil (lp_sy hr ks _ fun j hj => h j (List.mem_cons_of_mem _ hj)))))
end
theorem ca_need (h : Bk rs row) : Ca (C3 ad (d + 4)) "need_book" [bookV rs row] H (bookV rs row) := ca_of (fn := L13.F_need_book) rfl rfl (by decide) fun Q X q => by
  have h1 := h.n
  have h2 := h.m
  have hl : (rs.map pv).length = rs.length := List.length_map ..
  have hl2 : (row.map Sy.v).length = row.length := List.length_map ..
  refine w_iff (pair_no rfl) (kn_nil (w_asg (w := .lst (rs.map pv)) (fun _ _ q => q) rfl (w_asg (w := .lst (row.map Sy.v)) (fun _ _ q => q) rfl (w_iff (fun _ _ q => q) (kn_nil (w_iff ?_ (kn_nil (w_for (ei_range1 (ev_len (n := rs.length) (ev_var rfl) (congrArg some hl)) ⟨by omega, by omega⟩) (.inr nofun) (lp_ru h.r (fun x => ?_) rs.length 0 _ (Nat.zero_add _))))))))))
  · exact ev_or (p := false) (q := false) (decide_eq_false (show ¬ ((rs.length : Int) > 600) by omega) ▸ ev_cmp (ev_len (ev_var rfl) (congrArg some hl)) (ec_one (fun _ _ q => q) cm_gt)) fun _ => decide_eq_false (show ¬ ((row.length : Int) > 2000) by omega) ▸ ev_cmp (ev_len (ev_var rfl) (congrArg some hl2)) (ec_one (fun _ _ q => q) cm_gt)
  · exact w_for (xs := row.map Sy.v) (ds := []) (fun _ _ q => q) (.inr nofun) (lp_sy (fun x => r1 (ev_var rfl) fz_bk q) _ _ h.w)
/-! sizes -/
theorem Sb.of {u : V} {vs : List V} {k : Nat} {w : V} (hu : seqL H u = some vs) (hk : vs[k]? = some w) : Sb H u (.int k) w := fun _ q => sub_seq hu hk q
theorem lof_ch {c : Nat} {u : V} : Ca (C3 ad (d + 1)) "length_of" [.str ⟨#[c]⟩, u] H (.int 1) := ca_of (fn := L13.F_length_of) rfl rfl (by decide) fun _ _ q => q
theorem lof_ru {k : Nat} {u : V} {i : Int} (h : Sb H u (.int k) (.int i)) : Ca (C3 ad (d + 1)) "length_of" [.int k, u] H (.int i) := ca_of (fn := L13.F_length_of) rfl rfl (by decide) fun Q X q => h _ q
theorem sz_ch {c : Nat} {u : V} : Ca (C3 ad (d + 1)) "_law_size" [.str ⟨#[c]⟩, u] H (.int 1) := ca_of (fn := L13.F_law_size) rfl rfl (by decide) fun _ _ q => q
theorem sz_ru {k : Nat} {u : V} {i : Int} (h : Sb H u (.int k) (.int i)) : Ca (C3 ad (d + 1)) "_law_size" [.int k, u] H (.int i) := ca_of (fn := L13.F_law_size) rfl rfl (by decide) fun Q X q => h _ q
theorem ho_ch {c : Nat} {u : V} : Ca (C3 ad (d + 1)) "height_of" [.str ⟨#[c]⟩, u] H (.int 0) := ca_of (fn := L13.F_height_of) rfl rfl (by decide) fun _ _ q => q
theorem ho_ru {k : Nat} {u : V} {i : Int} (h : Sb H u (.int k) (.int i)) : Ca (C3 ad (d + 1)) "height_of" [.int k, u] H (.int i) := ca_of (fn := L13.F_height_of) rfl rfl (by decide) fun Q X q => h _ q
theorem szv_at {ts : List (List Nat)} {k : Nat} (h : k < ts.length) : (szv ts)[k]? = some (.int (tx ts (.ru k)).length) := by simp [szv, tx, List.getD, List.getElem?_eq_getElem h]
theorem lof {s : Sy} {u : V} {ts : List (List Nat)} (hu : seqL H u = some (szv ts)) (hs : s.ok ts.length) : Ca (C3 ad (d + 1)) "length_of" [s.v, u] H (.int (tx ts s).length) := match s with
  | .ch _ => lof_ch
  | .ru _ => lof_ru (.of hu (szv_at hs))
theorem szf {s : Sy} {u : V} {ts : List (List Nat)} (hu : seqL H u = some (szv ts)) (hs : s.ok ts.length) : Ca (C3 ad (d + 1)) "_law_size" [s.v, u] H (.int (tx ts s).length) := match s with
  | .ch _ => sz_ch
  | .ru _ => sz_ru (.of hu (szv_at hs))
theorem nv_at {hs : List Nat} {k : Nat} (h : k < hs.length) : (nv hs)[k]? = some (.int (ht hs (.ru k))) := by simp [nv, ht, List.getD, List.getElem?_eq_getElem h]
theorem hof {s : Sy} {u : V} {hs : List Nat} (hu : seqL H u = some (nv hs)) (h : s.ok hs.length) : Ca (C3 ad (d + 1)) "height_of" [s.v, u] H (.int (ht hs s)) := match s with
  | .ch _ => ho_ch
  | .ru _ => ho_ru (.of hu (nv_at h))
theorem fz_szv {n : Nat} {H' : AH} {ts : List (List Nat)} : ∀ v ∈ szv ts, frz H' H (n + 1) v = some v := fun v hv => by obtain ⟨s, _, rfl⟩ := List.mem_map.mp hv; rfl
theorem sl {n : Nat} (h : n ≤ 5000) : n < sizeLine := Nat.lt_of_le_of_lt h (Nat.blt_eq.mp rfl)
theorem at_pre {α : Type} {pre r : List α} {p : α} {l : List α} (e : pre ++ p :: r = l) : l[pre.length]? = some p := by rw [← e]; simp
theorem pre_le {α : Type} {pre r : List α} {p : α} {l : List α} (e : pre ++ p :: r = l) : pre.length < l.length := (List.getElem?_eq_some_iff.mp (at_pre e)).1
theorem cat1 {α : Type} {pre r : List α} {p : α} {l : List α} (e : pre ++ p :: r = l) : (pre ++ [p]) ++ r = l := by rw [← e, List.append_assoc]; rfl
theorem cat0 {α : Type} {pre l : List α} (e : pre ++ [] = l) : pre = l := by rw [← e, List.append_nil]
theorem okT {pre r : List Rl} {p : Rl} (hr : RulesOk rs) (e : pre ++ p :: r = rs) : p.1.ok (Tx pre).length ∧ p.2.ok (Tx pre).length := by rw [Tx_length]; exact hr _ _ (at_pre e)
noncomputable def lensB : Bl := .cons (.append (.var 1) (.pure (.bin .add (.call "length_of" (.cons (.sub (.var 2) (.int 0)) (.cons (.var 1) .nil))) (.call "length_of" (.cons (.sub (.var 2) (.int 1)) (.cons (.var 1) .nil)))))) .nil
theorem lens_loop {Q : V → Prop} {X : String → St → Prop} {bk : V} {a : Nat} (hr : RulesOk rs) (hn : rs.length ≤ 600) (hB : H a = none) (q : Q (.lst (szv (Tx rs)))) : ∀ (r pre : List Rl) (H' : AH) (x : Option V), pre ++ r = rs → H' a = some (.list (szv (Tx pre))) →
    Fo (C3 ad (d + 1)) (.var 2) lensB (.cons (.ret (.var 1)) .nil) (PK H Q) X (r.map pv) ⟨[some bk, some (.ref a), x], H', H⟩
  | [], pre, H', x, e, ha => fo_nil (w_ret (w := .ref a) (fun _ _ q => q) (pk_of (frz_ref hB ha fz_szv) (cat0 e ▸ q)))
  | p :: r, pre, H', x, e, ha => by
    have o := okT hr e
    have hl := pre_le e
    refine fo_cons (ρ' := [some bk, some (.ref a), some (pv p)]) rfl (w_app rfl ha hB (fun _ _ q => lof (seq_ref ha) o.1 _ _ (lof (seq_ref ha) o.2 _ _ q)) (sl (by rw [szv_length, Tx_length]; omega)) (kf_nil (lens_loop hr hn hB q r (pre ++ [p]) _ _ (cat1 e) ?_)))
    rw [szv_snoc]; exact upd_eq
theorem ca_lens (h : Bk rs row) : Ca (C3 ad (d + 5)) "lengths" [bookV rs row] H (.lst (szv (Tx rs))) := ca_of (fn := L13.F_lengths) rfl rfl (by decide) fun Q X q => w_exp (w := bookV rs row) (fun _ _ q => ca_need h _ _ q) (w_own0 rfl fun a h1 h2 => w_for (xs := rs.map pv) (ds := []) (fun _ _ q => q) (.inr nofun) (lens_loop (d := d + 3) h.r h.n h2 q rs [] _ none rfl upd_eq))
noncomputable def szsB : Bl := .cons (.append (.var 1) (.pure (.bin .add (.call "_law_size" (.cons (.var 2) (.cons (.var 1) .nil))) (.call "_law_size" (.cons (.var 3) (.cons (.var 1) .nil)))))) .nil
theorem szs_loop {Q : V → Prop} {X : String → St → Prop} {bk : V} {a : Nat} (hr : RulesOk rs) (hn : rs.length ≤ 600) (hB : H a = none) (q : Q (.lst (szv (Tx rs)))) : ∀ (r pre : List Rl) (H' : AH) (x y : Option V), pre ++ r = rs → H' a = some (.list (szv (Tx pre))) →
    Fo (C3 ad (d + 1)) (.tup [2, 3]) szsB (.cons (.ret (.var 1)) .nil) (PK H Q) X (r.map pv) ⟨[some bk, some (.ref a), x, y], H', H⟩
  | [], pre, H', x, y, e, ha => fo_nil (w_ret (w := .ref a) (fun _ _ q => q) (pk_of (frz_ref hB ha fz_szv) (cat0 e ▸ q)))
  | p :: r, pre, H', x, y, e, ha => by
    have o := okT hr e
    have hl := pre_le e
    refine fo_cons (ρ' := [some bk, some (.ref a), some p.1.v, some p.2.v]) rfl (w_app rfl ha hB (fun _ _ q => szf (seq_ref ha) o.1 _ _ (szf (seq_ref ha) o.2 _ _ q)) (sl (by rw [szv_length, Tx_length]; omega)) (kf_nil (szs_loop hr hn hB q r (pre ++ [p]) _ _ _ (cat1 e) ?_)))
    rw [szv_snoc]; exact upd_eq
theorem ca_szs (hr : RulesOk rs) (hn : rs.length ≤ 600) : Ca (C3 ad (d + 2)) "_law_sizes" [.lst (rs.map pv)] H (.lst (szv (Tx rs))) := ca_of (fn := L13.F_law_sizes) rfl rfl (by decide) fun Q X q => w_own0 rfl fun a h1 h2 => w_for (xs := rs.map pv) (ds := []) (fun _ _ q => q) (.inr nofun) (szs_loop (d := d) hr hn h2 q rs [] _ none none rfl upd_eq)
theorem ev_tot (h : Bk rs row) : Ev (C3 ad (d + 1)) ⟨[some (bookV rs row), some (.lst (szv (Tx rs))), none], H, H⟩ (.sum (.comp (.call "length_of" (.cons (.var 2) (.cons (.var 1) .nil))) (.var 2) (.seq (.sub (.var 0) (.int 1))))) (.int (bt rs row).length) := by
  have e := ev_comp (C := C3 ad (d + 1)) (ρ := [some (bookV rs row), some (.lst (szv (Tx rs))), none]) (H := H) (B := H) (elt := .call "length_of" (.cons (.var 2) (.cons (.var 1) .nil))) (i := 2) (it := .seq (.sub (.var 0) (.int 1))) (v := Sy.v) (g := fun s => V.int (tx (Tx rs) s).length) (r := row) (ds := []) (fun _ _ q => q) (Nat.le_of_lt (sl (Nat.le_trans h.m (by decide)))) (Nat.lt_succ_self 2) fun s hs => fun _ _ q => lof rfl (by rw [Tx_length]; exact h.w s hs) _ _ q
  exact bt_sum (rs := rs) row ▸ ev_sum e rfl (ints_map row)
theorem ca_total (h : Bk rs row) : Ca (C3 ad (d + 2)) "total_of" [bookV rs row, .lst (szv (Tx rs))] H (.int (bt rs row).length) := ca_of (fn := L13.F_total_of) rfl rfl (by decide) fun Q X q => r1 (ev_tot h) rfl q
theorem ca_length (h : Bk rs row) : Ca (C3 ad (d + 6)) "length" [bookV rs row] H (.int (bt rs row).length) := ca_of (fn := L13.F_length) rfl rfl (by decide) fun Q X q => w_asg (fun _ _ q => ca_lens h _ _ q) rfl (r1 (ev_tot (d := d + 4) h) rfl q)
/-! depth -/
noncomputable def dpB : Bl := .cons (.append (.var 1) (.pure (.bin .add (.int 1) (.max2 (.call "height_of" (.cons (.sub (.var 2) (.int 0)) (.cons (.var 1) .nil))) (.call "height_of" (.cons (.sub (.var 2) (.int 1)) (.cons (.var 1) .nil))))))) .nil
noncomputable def dpR : Bl := .cons (.ret (.maxd (.comp (.call "height_of" (.cons (.var 3) (.cons (.var 1) .nil))) (.var 3) (.seq (.sub (.var 0) (.int 1)))) (.int 0))) .nil
theorem dp_ret {Q : V → Prop} {X : String → St → Prop} {a : Nat} {x : Option V} {H' : AH} (h : Bk rs row) (ha : H' a = some (.list (nv (Hts rs)))) (q : Q (.int (dp rs row))) : WB (C3 ad (d + 1)) dpR ⟨[some (bookV rs row), some (.ref a), x, none], H', H⟩ (PK H Q) X := by
  have e := ev_comp (C := C3 ad (d + 1)) (ρ := [some (bookV rs row), some (.ref a), x, none]) (H := H') (B := H) (elt := .call "height_of" (.cons (.var 3) (.cons (.var 1) .nil))) (i := 3) (it := .seq (.sub (.var 0) (.int 1))) (v := Sy.v) (g := fun s => V.int (ht (Hts rs) s : Nat)) (r := row) (ds := []) (fun _ _ q => q) (Nat.le_of_lt (sl (Nat.le_trans h.m (by decide)))) (Nat.lt_succ_self 3) fun s hs => fun _ _ q => hof (seq_ref ha) (by rw [Hts_length]; exact h.w s hs) _ _ q
  refine r1 (w := .int (dp rs row)) (fun Q' X' q' => e (fun u => WE (C3 ad (d + 1)) (.int 0) ⟨[some (bookV rs row), some (.ref a), x, none], H', H⟩ (fun v => maxD H' u v Q') X') X' ?_) rfl q
  show intsP (row.map fun s => V.int (ht (Hts rs) s : Nat)) fun is => Q' (match is with
    | [] => .int 0
    | i :: r => .int (maxI i r))
  rw [ints_p]
  unfold dp at q'
  generalize (row.map fun s => ((ht (Hts rs) s : Nat) : Int)) = L at q' ⊢
  cases L <;> exact q'
theorem dp_loop {Q : V → Prop} {X : String → St → Prop} {a : Nat} (h : Bk rs row) (hB : H a = none) (q : Q (.int (dp rs row))) : ∀ (r pre : List Rl) (H' : AH) (x : Option V), pre ++ r = rs → H' a = some (.list (nv (Hts pre))) →
    Fo (C3 ad (d + 1)) (.var 2) dpB dpR (PK H Q) X (r.map pv) ⟨[some (bookV rs row), some (.ref a), x, none], H', H⟩
  | [], pre, H', x, e, ha => fo_nil (dp_ret h (cat0 e ▸ ha) q)
  | p :: r, pre, H', x, e, ha => by
    have o := h.r _ _ (at_pre e)
    rw [← Hts_length pre] at o
    have hl := pre_le e
    have hn := h.n
    refine fo_cons (ρ' := [some (bookV rs row), some (.ref a), some (pv p), none]) rfl (w_app rfl ha hB (ev_add ev_int (ev_max2 (fun _ _ q => hof (seq_ref ha) o.1 _ _ q) (fun _ _ q => hof (seq_ref ha) o.2 _ _ q))) (sl (by rw [nv_length, Hts_length]; omega)) (kf_nil (dp_loop h hB q r (pre ++ [p]) _ _ (cat1 e) ?_)))
    rw [Hts_snoc, ← nv_snoc, show ((1 + max (ht (Hts pre) p.1) (ht (Hts pre) p.2) : Nat) : Int) = 1 + max (ht (Hts pre) p.1 : Int) (ht (Hts pre) p.2 : Int) from by omega]; exact upd_eq
theorem ca_depth (h : Bk rs row) : Ca (C3 ad (d + 5)) "depth" [bookV rs row] H (.int (dp rs row)) := ca_of (fn := L13.F_depth) rfl rfl (by decide) fun Q X q => w_exp (w := bookV rs row) (fun _ _ q => ca_need h _ _ q) (w_own0 rfl fun a h1 h2 => w_for (xs := rs.map pv) (ds := []) (fun _ _ q => q) (.inr nofun) (dp_loop (d := d + 3) h h2 q rs [] _ none rfl upd_eq))
end
end Lib
end

section
set_option autoImplicit false
set_option linter.unusedSimpArgs false
set_option linter.unusedVariables false
namespace Lib
open PySem Mine
/-! uses, and the law's own count -/
noncomputable def s1 (m : Nat) (f : Nat → Int) : Sy → Nat → Int
  | .ch _ => f
  | .ru j => up f j (f j + f m)
noncomputable def s2 (rs : List Rl) (m : Nat) (f : Nat → Int) : Nat → Int := [(rl rs m).1, (rl rs m).2].foldl (s1 m) f
noncomputable def run (rs : List Rl) : Nat → (Nat → Int) → Nat → Int
  | 0, f => f
  | m + 1, f => run rs m (s2 rs m f)
section
variable {ad d : Nat} {H : AH} {rs : List Rl} {row : List Sy}
theorem rl_get {m : Nat} (h : m < rs.length) : rs[m]? = some (rl rs m) := by simp [rl, List.getD, List.getElem?_eq_getElem h]
theorem sb_rl {m : Nat} (h : m < rs.length) : Sb H (.lst (rs.map pv)) (.int m) (pv (rl rs m)) := sb_lst (by rw [List.getElem?_map, rl_get h]; rfl)
theorem fz_fl {n k : Nat} {f : Nat → Int} {H' : AH} : ∀ v ∈ fl n f, frz H' H (k + 1) v = some v := fun v hv => by obtain ⟨s, _, rfl⟩ := List.mem_map.mp hv; rfl
section
variable {Q : Fl → St → Prop} {X : String → St → Prop} {r : Bl} {v0 v1 : V} {x4 x5 : Option V} {a n : Nat}
noncomputable def usA : Bl := .cons (.ite (.call "is_whole" (.cons (.var 3) .nil)) (.cons (.setitem (.var 2) (.var 3) (.bin .add (.sub (.var 2) (.var 3)) (.int 1))) .nil) .nil) .nil
noncomputable def usB : Bl := .cons (.ite (.call "is_whole" (.cons (.var 3) .nil)) (.cons (.setitem (.var 2) (.var 3) (.bin .add (.sub (.var 2) (.var 3)) (.sub (.var 2) (.var 4)))) .nil) .nil) .nil
noncomputable def usC : Bl := .cons (.ite (.not (.isinst (.var 5) .str)) (.cons (.setitem (.var 2) (.var 5) (.bin .add (.sub (.var 2) (.var 5)) (.sub (.var 2) (.var 4)))) .nil) .nil) .nil
theorem cn_snoc {pre : List Sy} {s : Sy} : cn (pre ++ [s]) = fun j => cn pre j + mt s j 1 := funext fun j => by simp [cn]
theorem us_row (hB : H a = none) (hr : ∀ x H', H' a = some (.list (fl n (cn row))) → WB (C3 ad (d + 1)) r ⟨[some v0, some v1, some (.ref a), x, x4, x5], H', H⟩ Q X) : ∀ (ss pre : List Sy) (x : Option V) (H' : AH), pre ++ ss = row → RowOk n ss → H' a = some (.list (fl n (cn pre))) → Fo (C3 ad (d + 1)) (.var 3) usA r Q X (ss.map Sy.v) ⟨[some v0, some v1, some (.ref a), x, x4, x5], H', H⟩
  | [], pre, x, H', e, _, ha => fo_nil (hr x H' (cat0 e ▸ ha))
  | .ch c :: ss, pre, x, H', e, o, ha => fo_cons (ρ' := [some v0, some v1, some (.ref a), some (.str ⟨#[c]⟩), x4, x5]) rfl (w_iff (fun _ _ q => wh_ch _ _ q) (kn_nil (kf_nil (us_row hB hr ss (pre ++ [.ch c]) _ _ (cat1 e) (fun s hs => o s (List.mem_cons_of_mem _ hs)) (by rw [cn_snoc, show (fun j => cn pre j + mt (.ch c) j 1) = cn pre from funext fun j => Int.add_zero _]; exact ha)))))
  | .ru k :: ss, pre, x, H', e, o, ha => by
    have hk : k < n := o _ (List.mem_cons_self ..)
    refine fo_cons (ρ' := [some v0, some v1, some (.ref a), some (.int k), x4, x5]) rfl (w_ift (fun _ _ q => wh_nt _ _ q) (w_set (ev_add (ev_sub (ev_var rfl) (ev_var rfl) (sb_ref ha (fl_get hk))) ev_int) rfl (ev_var rfl) ha hB (by rw [fl_length]; exact hk) (kn_nil (kf_nil (us_row hB hr ss (pre ++ [.ru k]) _ _ (cat1 e) (fun s hs => o s (List.mem_cons_of_mem _ hs)) ?_)))))
    rw [fl_set hk, up_add, ← cn_snoc]; exact upd_eq
theorem us_in {m : Nat} (hB : H a = none) (hm : m < n) : ∀ (ss : List Sy) (f : Nat → Int) (x : Option V) (H' : AH), RowOk n ss → H' a = some (.list (fl n f)) → (∀ x H', H' a = some (.list (fl n (ss.foldl (s1 m) f))) → WB (C3 ad (d + 1)) r ⟨[some v0, some v1, some (.ref a), x, some (.int m), x5], H', H⟩ Q X) → Fo (C3 ad (d + 1)) (.var 3) usB r Q X (ss.map Sy.v) ⟨[some v0, some v1, some (.ref a), x, some (.int m), x5], H', H⟩
  | [], f, x, H', _, ha, hr => fo_nil (hr x H' ha)
  | .ch c :: ss, f, x, H', o, ha, hr => fo_cons (ρ' := [some v0, some v1, some (.ref a), some (.str ⟨#[c]⟩), some (.int m), x5]) rfl (w_iff (fun _ _ q => wh_ch _ _ q) (kn_nil (kf_nil (us_in hB hm ss f _ _ (fun s hs => o s (List.mem_cons_of_mem _ hs)) ha hr))))
  | .ru k :: ss, f, x, H', o, ha, hr => by
    have hk : k < n := o _ (List.mem_cons_self ..)
    refine fo_cons (ρ' := [some v0, some v1, some (.ref a), some (.int k), some (.int m), x5]) rfl (w_ift (fun _ _ q => wh_nt _ _ q) (w_set (ev_add (ev_sub (ev_var rfl) (ev_var rfl) (sb_ref ha (fl_get hk))) (ev_sub (ev_var rfl) (ev_var rfl) (sb_ref ha (fl_get hm)))) rfl (ev_var rfl) ha hB (by rw [fl_length]; exact hk) (kn_nil (kf_nil (us_in hB hm ss (up f k (f k + f m)) _ _ (fun s hs => o s (List.mem_cons_of_mem _ hs)) ?_ hr)))))
    rw [fl_set hk]; exact upd_eq
theorem ud_in {m : Nat} {x3 : Option V} (hB : H a = none) (hm : m < n) : ∀ (ss : List Sy) (f : Nat → Int) (x : Option V) (H' : AH), RowOk n ss → H' a = some (.list (fl n f)) → (∀ x H', H' a = some (.list (fl n (ss.foldl (s1 m) f))) → WB (C3 ad d) r ⟨[some v0, some v1, some (.ref a), x3, some (.int m), x], H', H⟩ Q X) → Fo (C3 ad d) (.var 5) usC r Q X (ss.map Sy.v) ⟨[some v0, some v1, some (.ref a), x3, some (.int m), x], H', H⟩
  | [], f, x, H', _, ha, hr => fo_nil (hr x H' ha)
  | .ch c :: ss, f, x, H', o, ha, hr => fo_cons (ρ' := [some v0, some v1, some (.ref a), x3, some (.int m), some (.str ⟨#[c]⟩)]) rfl (w_iff (fun _ _ q => q) (kn_nil (kf_nil (ud_in hB hm ss f _ _ (fun s hs => o s (List.mem_cons_of_mem _ hs)) ha hr))))
  | .ru k :: ss, f, x, H', o, ha, hr => by
    have hk : k < n := o _ (List.mem_cons_self ..)
    refine fo_cons (ρ' := [some v0, some v1, some (.ref a), x3, some (.int m), some (.int k)]) rfl (w_ift (fun _ _ q => q) (w_set (ev_add (ev_sub (ev_var rfl) (ev_var rfl) (sb_ref ha (fl_get hk))) (ev_sub (ev_var rfl) (ev_var rfl) (sb_ref ha (fl_get hm)))) rfl (ev_var rfl) ha hB (by rw [fl_length]; exact hk) (kn_nil (kf_nil (ud_in hB hm ss (up f k (f k + f m)) _ _ (fun s hs => o s (List.mem_cons_of_mem _ hs)) ?_ hr)))))
    rw [fl_set hk]; exact upd_eq
theorem rl_row {m : Nat} (hr : RulesOk rs) (h : m < rs.length) : RowOk rs.length [(rl rs m).1, (rl rs m).2] := fun s hs => by
  have o := rl_ok hr h
  rcases List.mem_cons.mp hs with rfl | hs
  · exact o.1.mono (Nat.le_of_lt h)
  · rw [List.mem_singleton.mp hs]; exact o.2.mono (Nat.le_of_lt h)
end
variable {Q : V → Prop} {X : String → St → Prop} {a : Nat} {x5 : Option V} {v0 : V}
noncomputable def retF : Bl := .cons (.ret (.var 2)) .nil
theorem us_ret {ρ : List (Option V)} {H' : AH} {f : Nat → Int} {n : Nat} (h2 : ρ[2]? = some (some (.ref a))) (hB : H a = none) (ha : H' a = some (.list (fl n f))) (q : Q (.lst (fl n f))) : WB (C3 ad d) retF ⟨ρ, H', H⟩ (PK H Q) X := r1 (ev_var h2) (frz_ref hB ha fz_fl) q
theorem us_dn (hr : RulesOk rs) (hB : H a = none) : ∀ (m : Nat) (f : Nat → Int) (x y : Option V) (H' : AH), m ≤ rs.length → H' a = some (.list (fl rs.length f)) → Q (.lst (fl rs.length (run rs m f))) →
    Fo (C3 ad (d + 1)) (.var 4) (.cons (.for (.var 3) (.seq (.sub (.var 1) (.var 4))) usB) .nil) retF (PK H Q) X (downL ((m : Int) - 1) (-1)) ⟨[some v0, some (.lst (rs.map pv)), some (.ref a), x, y, x5], H', H⟩
  | 0, f, x, y, H', hm, ha, q => by rw [show downL (((0 : Nat) : Int) - 1) (-1) = [] from downL_nil]; exact fo_nil (us_ret rfl hB ha q)
  | m + 1, f, x, y, H', hm, ha, q => by
    rw [show (((m + 1 : Nat) : Int) - 1) = (m : Int) by omega, downL_cons]
    exact fo_cons (ρ' := [some v0, some (.lst (rs.map pv)), some (.ref a), x, some (.int m), x5]) rfl (w_for (xs := [(rl rs m).1.v, (rl rs m).2.v]) (ds := []) (fun _ _ q => sb_rl (H := H') hm _ q) (.inr nofun) (us_in hB hm [(rl rs m).1, (rl rs m).2] f _ _ (rl_row hr hm) ha fun x H' ha => kf_nil (us_dn hr hB m _ _ _ _ (Nat.le_of_lt hm) ha q)))
theorem ud_up (hr : RulesOk rs) (hB : H a = none) {t : V} : ∀ (m k : Nat) (f : Nat → Int) (x y z : Option V) (H' : AH), k + m = rs.length → H' a = some (.list (fl rs.length f)) → Q (.lst (fl rs.length (run rs m f))) →
    Fo (C3 ad d) (.var 3) (.cons (.assign (.var 4) (.bin .sub (.bin .sub (.len (.var 0)) (.int 1)) (.var 3))) (.cons (.for (.var 5) (.seq (.sub (.var 0) (.var 4))) usC) .nil)) retF (PK H Q) X (upL k rs.length) ⟨[some (.lst (rs.map pv)), some t, some (.ref a), x, y, z], H', H⟩
  | 0, k, f, x, y, z, H', hm, ha, q => by rw [upL_nil (by omega)]; exact fo_nil (us_ret rfl hB ha q)
  | m + 1, k, f, x, y, z, H', hm, ha, q => by
    rw [upL_cons (by omega)]
    have hm' : m < rs.length := by omega
    have e : ((rs.length : Int) - 1 - k) = m := by omega
    exact fo_cons (ρ' := [some (.lst (rs.map pv)), some t, some (.ref a), some (.int k), y, z]) rfl (w_asg (w := .int m) (e ▸ ev_sb (ev_sb (ev_len (ev_var rfl) (show some (rs.map pv).length = some rs.length from congrArg some (List.length_map ..))) ev_int) (ev_var rfl)) rfl (w_for (xs := [(rl rs m).1.v, (rl rs m).2.v]) (ds := []) (fun _ _ q => sb_rl (H := H') hm' _ q) (.inr nofun) (ud_in hB hm' [(rl rs m).1, (rl rs m).2] f _ _ (rl_row hr hm') ha fun x H' ha => kf_nil (ud_up hr hB m (k + 1) _ _ _ _ _ (by omega) ha q))))
theorem fl_zero {α : Type} {l : List α} {n : Nat} (h : l.length = n) : l.map (fun _ => V.int 0) = fl n fun _ => 0 := by
  rw [List.map_const', h]; simp [fl, List.map_const']
theorem ca_uses (h : Bk rs row) : Ca (C3 ad (d + 5)) "uses" [bookV rs row] H (.lst (fl rs.length (run rs rs.length (cn row)))) := ca_of (fn := L13.F_uses) rfl rfl (by decide) fun Q X q => by
  have hn := h.n
  have hl : (rs.map pv).length = rs.length := List.length_map ..
  have e := ev_comp (C := C3 ad (d + 4)) (ρ := [some (bookV rs row), some (.lst (rs.map pv)), none, none, none, none]) (H := H) (B := H) (elt := .int 0) (i := 5) (it := .seq (.var 1)) (v := pv) (g := fun _ => V.int 0) (r := rs) (ds := []) (fun _ _ q => q) (Nat.le_of_lt (sl (by omega))) (Nat.lt_succ_self 5) fun s hs => ev_int
  rw [fl_zero rfl] at e
  exact w_exp (w := bookV rs row) (fun _ _ q => ca_need h _ _ q) (w_asg (w := .lst (rs.map pv)) (fun _ _ q => q) rfl (w_thaw e rfl fun a h1 h2 => w_for (xs := row.map Sy.v) (ds := []) (fun _ _ q => q) (.inr nofun) (us_row (d := d + 3) (v0 := bookV rs row) (v1 := .lst (rs.map pv)) (x4 := none) (x5 := none) h2 (fun x H' ha => w_for (xs := downL ((rs.length : Int) - 1) (-1)) (ds := []) (ei_range3 (ev_sb (ev_len (u := .lst (rs.map pv)) (ev_var rfl) (congrArg some hl)) ev_int) (ev_neg ev_int) (ev_neg ev_int) ⟨by omega, by omega⟩ ⟨by decide, by decide⟩) (.inr nofun) (us_dn h.r h2 rs.length _ _ _ _ (Nat.le_refl _) ha q)) row [] _ _ rfl h.w upd_eq)))
theorem rep0 : ∀ n : Nat, repL n [V.int 0] = fl n fun _ => 0 := fun n => by
  simp [repL, fl, List.map_const']
theorem ca_used {t : Int} (hr : RulesOk rs) (hn : rs.length ≤ 600) (h0 : 0 < rs.length) : Ca (C3 ad (d + 1)) "_law_used" [.lst (rs.map pv), .int t] H (.lst (fl rs.length (run rs rs.length (up (fun _ => 0) (rs.length - 1) t)))) := ca_of (fn := L13.F_law_used) rfl rfl (by decide) fun Q X q => by
  have hl : (rs.map pv).length = rs.length := List.length_map ..
  have e := ev_mulL (C := C3 ad d) (st := ⟨[some (.lst (rs.map pv)), some (.int t), none, none, none, none], H, H⟩) (a := .list (.cons (.int 0) .nil)) (b := .len (.var 0)) (vs := [.int 0]) (n := rs.length) (ev_list (evs_cons ev_int evs_nil) rfl) (ev_len (ev_var rfl) (congrArg some hl)) (by omega) (by rw [show [V.int 0].length = 1 from rfl, Nat.one_mul]; exact Nat.le_of_lt (sl (by omega)))
  rw [rep0] at e
  refine w_thaw e rfl fun a h1 h2 => w_setl (ev_var rfl) rfl upd_eq h2 (fun e => by have := congrArg List.length e; rw [fl_length] at this; exact absurd this (by show rs.length ≠ 0; omega)) (w_for (xs := upL 0 rs.length) (ds := []) (ei_range1 (ev_len (ev_var rfl) (congrArg some hl)) ⟨by omega, by omega⟩) (.inr nofun) (ud_up hr h2 rs.length 0 _ _ _ _ _ (Nat.zero_add _) ?_ q))
  rw [fl_length, fl_set (by omega)]; exact upd_eq
end
end Lib
end

section
set_option autoImplicit false
set_option linter.unusedSimpArgs false
set_option linter.unusedVariables false
namespace Lib
open PySem Mine
/-! sign_at, and the law's own way -/
theorem ge_t {n m : Nat} (h : m ≤ n) : decide ((n : Int) ≥ m) = true := decide_eq_true (Int.ofNat_le.mpr h)
theorem ge_f {n m : Nat} (h : n < m) : decide ((n : Int) ≥ m) = false := decide_eq_false (Int.not_le.mpr (Int.ofNat_lt.mpr h))
theorem le2 {x y : V} : [x, y].length ≤ sizeLine := Nat.le_of_ble_eq_true rfl
theorem ev_sbN {C : Cx} {st : St} {a b : E} {n m : Nat} (ha : Ev C st a (.int (n + m : Nat))) (hb : Ev C st b (.int n)) : Ev C st (.bin .sub a b) (.int m) := by
  have := ev_sb ha hb
  rwa [show ((n + m : Nat) : Int) - n = m by omega] at this
section
variable {ad d : Nat} {H : AH} {rs : List Rl} {row pre post : List Sy} {s : Sy} {Q : V → Prop} {X : String → St → Prop}
theorem fz_nv {n : Nat} {l : List Nat} {H' : AH} : ∀ v ∈ nv l, frz H' H (n + 1) v = some v := fun v hv => by obtain ⟨s, _, rfl⟩ := List.mem_map.mp hv; rfl
theorem sb_row {k : Nat} (h : row[k]? = some s) : Sb H (.lst (row.map Sy.v)) (.int k) s.v := sb_lst (by rw [List.getElem?_map, h]; rfl)
theorem sb_rule {k : Nat} {a b : Sy} (h : rs[k]? = some (a, b)) : Sb H (.lst (rs.map pv)) (.int k) (pv (a, b)) := sb_lst (by rw [List.getElem?_map, h]; rfl)
noncomputable def sgW : E := .not (.isinst (.var 4) .str)
noncomputable def sgI : Bl := .cons (.ite (.cmp (.var 1) (.one .ge (.var 7))) (.cons (.assign (.var 1) (.bin .sub (.var 1) (.var 7))) (.cons (.assign (.var 4) (.sub (.var 6) (.int 1))) .nil)) .nil) .nil
noncomputable def sgB : Bl := .cons (.append (.var 5) (.pure (.var 4))) (.cons (.assign (.var 6) (.sub (.sub (.var 0) (.int 0)) (.var 4))) (.cons (.assign (.var 7) (.call "length_of" (.cons (.sub (.var 6) (.int 0)) (.cons (.var 2) .nil)))) (.cons (.assign (.var 4) (.sub (.var 6) (.int 0))) sgI)))
noncomputable def sgR : Bl := .cons (.ret (.tup (.cons (.var 4) (.cons (.var 5) .nil)))) .nil
theorem sg_rule {k m : Nat} {a b : Sy} {acc : List Nat} {at' y z : Option V} {i : V} {ad' : Nat} {H' : AH} (hr : RulesOk rs) (hB : H ad' = none) (hg : rs[k]? = some (a, b)) (ha : H' ad' = some (.list (nv acc))) (hl : acc.length < 600)
    (h : ∀ H', H' ad' = some (.list (nv (acc ++ [k]))) → WB (C3 ad (d + 1)) sgI ⟨[some (bookV rs row), some i, some (.lst (szv (Tx rs))), at', some a.v, some (.ref ad'), some (pv (a, b)), some (.int (tx (Tx rs) a).length)], H', H⟩ (Kw (C3 ad (d + 1)) sgW sgB sgR (PK H Q) X m) X) :
    Wh (C3 ad (d + 1)) sgW sgB sgR (PK H Q) X (m + 1) ⟨[some (bookV rs row), some i, some (.lst (szv (Tx rs))), at', some (.int k), some (.ref ad'), y, z], H', H⟩ := by
  have o := hr k _ hg
  have hk := (List.getElem?_eq_some_iff.mp hg).1
  refine wh_step (fun _ _ q => q) (w_app rfl ha hB (ev_var rfl) (sl (by rw [nv_length]; omega)) (w_asg (w := pv (a, b)) (fun _ _ q => sb_rule (H := H) hg _ q) rfl (w_asg (w := .int (tx (Tx rs) a).length) (fun _ _ q => lof rfl (by rw [Tx_length]; exact o.1.mono (Nat.le_of_lt hk)) _ _ q) rfl (w_asg (w := a.v) (fun _ _ q => q) rfl (h _ ?_)))))
  rw [← nv_snoc]; exact upd_eq
theorem sg_loop {at' : Option V} {p c a : Nat} {l : List Nat} (hr : RulesOk rs) (hB : H a = none) (w : Way rs s p c l) : ∀ (acc : List Nat) (y z : Option V) (H' : AH), acc.length + l.length ≤ 600 → H' a = some (.list (nv acc)) → Q (.tup [.str ⟨#[c]⟩, .lst (nv (acc ++ l))]) →
    Wh (C3 ad (d + 1)) sgW sgB sgR (PK H Q) X (l.length + 1) ⟨[some (bookV rs row), some (.int p), some (.lst (szv (Tx rs))), at', some s.v, some (.ref a), y, z], H', H⟩ := by
  induction w with
  | ch => exact fun acc y z H' hl ha q => wh_end (fun _ _ q => q) (r1 (w := .tup [.str ⟨#[_]⟩, .ref a]) (fun _ _ q => ⟨le2, q⟩) (frz_two rfl (frz_ref hB ha fz_nv)) (List.append_nil acc ▸ q))
  | left k a' b' p c l hg hp w ih => exact fun acc y z H' hl ha q => sg_rule hr hB hg ha (by simp at hl; omega) fun H' ha => w_iff (ge_f hp ▸ ev_cmp (ev_var rfl) (ec_one (ev_var rfl) cm_ge)) (kn_nil (kw_nil (ih (acc ++ [k]) _ _ _ (by simp at hl ⊢; omega) ha (by rw [List.append_assoc]; exact q))))
  | right k a' b' p c l hg hp w ih => exact fun acc y z H' hl ha q => sg_rule hr hB hg ha (by simp at hl; omega) fun H' ha => w_ift (ge_t (Nat.le_add_right _ _) ▸ ev_cmp (ev_var rfl) (ec_one (ev_var rfl) cm_ge)) (w_asg (w := .int p) (ev_sbN (ev_var rfl) (ev_var rfl)) rfl (w_asg (w := b'.v) (fun _ _ q => q) rfl (kn_nil (kw_nil (ih (acc ++ [k]) _ _ _ (by simp at hl ⊢; omega) ha (by rw [List.append_assoc]; exact q))))))
noncomputable def sgT : E := .cmp (.var 1) (.one .ge (.call "length_of" (.cons (.sub (.sub (.var 0) (.int 1)) (.var 3)) (.cons (.var 2) .nil))))
noncomputable def sgA : Bl := .cons (.assign (.var 1) (.bin .sub (.var 1) (.call "length_of" (.cons (.sub (.sub (.var 0) (.int 1)) (.var 3)) (.cons (.var 2) .nil))))) (.cons (.assign (.var 3) (.bin .add (.var 3) (.int 1))) .nil)
theorem ev_lofR {k : Nat} {i : V} (h : Bk rs row) (hg : row[k]? = some s) : Ev (C3 ad (d + 1)) ⟨[some (bookV rs row), some i, some (.lst (szv (Tx rs))), some (.int k), none, none, none, none], H, H⟩ (.call "length_of" (.cons (.sub (.sub (.var 0) (.int 1)) (.var 3)) (.cons (.var 2) .nil))) (.int (tx (Tx rs) s).length) := fun _ _ q => sb_row (H := H) hg _ (lof rfl (by rw [Tx_length]; exact h.w _ (List.mem_of_getElem? hg)) _ _ q)
theorem sgA_loop {Q : Fl → St → Prop} {r : Bl} {p : Nat} (h : Bk rs row) (hp : p < (tx (Tx rs) s).length) (hr : ∀ k : Nat, row[k]? = some s → WB (C3 ad (d + 1)) r ⟨[some (bookV rs row), some (.int p), some (.lst (szv (Tx rs))), some (.int k), none, none, none, none], H, H⟩ Q X) : ∀ (todo dn : List Sy), dn ++ (todo ++ s :: post) = row →
    Wh (C3 ad (d + 1)) sgT sgA r Q X (todo.length + 1) ⟨[some (bookV rs row), some (.int ((bt rs todo).length + p : Nat)), some (.lst (szv (Tx rs))), some (.int dn.length), none, none, none, none], H, H⟩
  | [], dn, e => by
    have hg := at_pre e
    rw [show (bt rs []).length + p = p from Nat.zero_add p]
    exact wh_end (ge_f hp ▸ ev_cmp (ev_var rfl) (ec_one (ev_lofR h hg) cm_ge)) (hr _ hg)
  | t :: todo, dn, e => by
    have hg := at_pre e
    have he : (bt rs (t :: todo)).length + p = (tx (Tx rs) t).length + ((bt rs todo).length + p) := by rw [bt_cons, List.length_append, Nat.add_assoc]
    rw [he]
    have ih := sgA_loop h hp hr todo (dn ++ [t]) (by rw [← e, List.append_assoc]; rfl)
    rw [List.length_append] at ih
    exact wh_step (ge_t (Nat.le_add_right _ _) ▸ ev_cmp (ev_var rfl) (ec_one (ev_lofR h hg) cm_ge)) (w_asg (w := .int ((bt rs todo).length + p : Nat)) (ev_sbN (ev_var rfl) (ev_lofR h hg)) rfl (w_asg (w := .int ((dn.length + 1 : Nat) : Int)) (fun _ _ q => q) rfl (kw_nil ih)))
theorem ca_sign {p c : Nat} {l : List Nat} (h : Bk rs row) (e : pre ++ s :: post = row) (hp : p < (tx (Tx rs) s).length) (w : Way rs s p c l) (hl : l.length ≤ 600) : Ca (C3 ad (d + 6)) "sign_at" [bookV rs row, .int ((bt rs pre).length + p : Nat)] H (.tup [.str ⟨#[c]⟩, .lst (nv l)]) := ca_of (fn := L13.F_sign_at) rfl rfl (by decide) fun Q X q => by
  have g : decide ((((bt rs pre).length + p : Nat) : Int) < (bt rs row).length) = true := decide_eq_true (by rw [← e, bt_append, bt_cons, List.length_append, List.length_append]; omega)
  refine w_asg (w := .lst (szv (Tx rs))) (fun _ _ q => ca_lens h _ _ q) rfl (w_iff (ev_or (p := false) (q := false) (fun _ _ q => wh_nt _ _ q) fun _ => ev_not (b := true) (ev_cmp ev_int (ec_more (p := true) (q := true) (ev_var rfl) ((decide_eq_true (Int.natCast_nonneg _)) ▸ cm_le) fun _ => ec_one (fun _ _ q => ca_total h _ _ q) (g ▸ cm_lt)))) (kn_nil (w_asg (w := .int 0) (fun _ _ q => q) rfl (w_while (pre.length + 1) (sgA_loop (d := d + 4) h hp (fun k hg => ?_) pre [] e)))))
  exact w_asg (w := s.v) (fun _ _ q => sb_row (H := H) hg _ q) rfl (w_own0 rfl fun a h1 h2 => w_while (l.length + 1) (sg_loop h.r h2 w [] _ _ _ (by simpa using hl) upd_eq q))
/-! the law's way -/
noncomputable def lwT : E := .cmp (.var 3) (.one .ge (.call "_law_size" (.cons (.sub (.var 4) (.var 6)) (.cons (.var 2) .nil))))
noncomputable def lwA : Bl := .cons (.assign (.var 3) (.bin .sub (.var 3) (.call "_law_size" (.cons (.sub (.var 4) (.var 6)) (.cons (.var 2) .nil))))) (.cons (.assign (.var 6) (.bin .add (.var 6) (.int 1))) .nil)
noncomputable def lwR : Bl := .cons (.ite (.isinst (.sub (.var 4) (.var 6)) .str) (.cons (.ret (.tup (.cons (.sub (.var 4) (.var 6)) (.cons (.var 5) .nil)))) .nil) .nil) (.cons (.append (.var 5) (.pure (.sub (.var 4) (.var 6)))) (.cons (.assign (.var 4) (.sub (.var 0) (.sub (.var 4) (.var 6)))) .nil))
noncomputable def lwB : Bl := .cons (.assign (.var 6) (.int 0)) (.cons (.while lwT lwA) lwR)
noncomputable def lwS (rs : List Rl) (rv : V) (i u v k : V) : List (Option V) := [some (.lst (rs.map pv)), some rv, some (.lst (szv (Tx rs))), some i, some u, some v, some k]
/-- a row of symbols, as a list or a tuple -/
noncomputable def Rw (u : V) (L : List Sy) : Prop := ∀ (H : AH) (k : Nat) (s : Sy), L[k]? = some s → Sb H u (.int k) s.v
theorem ev_lwS {k : Nat} {u rv i v : V} {L : List Sy} {H' : AH} (hu : Rw u L) (ho : RowOk rs.length L) (hg : L[k]? = some s) : Ev (C3 ad (d + 1)) ⟨lwS rs rv i u v (.int k), H', H⟩ (.call "_law_size" (.cons (.sub (.var 4) (.var 6)) (.cons (.var 2) .nil))) (.int (tx (Tx rs) s).length) := fun _ _ q => hu H' k s hg _ (szf rfl (by rw [Tx_length]; exact ho _ (List.mem_of_getElem? hg)) _ _ q)
theorem lwA_loop {Q : Fl → St → Prop} {r : Bl} {p : Nat} {u rv v : V} {L : List Sy} {H' : AH} (hu : Rw u L) (ho : RowOk rs.length L) (hp : p < (tx (Tx rs) s).length) (hr : ∀ k : Nat, L[k]? = some s → WB (C3 ad (d + 1)) r ⟨lwS rs rv (.int p) u v (.int k), H', H⟩ Q X) : ∀ (todo dn : List Sy), dn ++ (todo ++ s :: post) = L →
    Wh (C3 ad (d + 1)) lwT lwA r Q X (todo.length + 1) ⟨lwS rs rv (.int ((bt rs todo).length + p : Nat)) u v (.int dn.length), H', H⟩
  | [], dn, e => by
    have hg := at_pre e
    rw [show (bt rs []).length + p = p from Nat.zero_add p]
    exact wh_end (ge_f hp ▸ ev_cmp (ev_var rfl) (ec_one (ev_lwS hu ho hg) cm_ge)) (hr _ hg)
  | t :: todo, dn, e => by
    have hg := at_pre e
    have he : (bt rs (t :: todo)).length + p = (tx (Tx rs) t).length + ((bt rs todo).length + p) := by rw [bt_cons, List.length_append, Nat.add_assoc]
    rw [he]
    have ih := lwA_loop hu ho hp hr todo (dn ++ [t]) (by rw [← e, List.append_assoc]; rfl)
    rw [List.length_append] at ih
    exact wh_step (ge_t (Nat.le_add_right _ _) ▸ ev_cmp (ev_var rfl) (ec_one (ev_lwS hu ho hg) cm_ge)) (w_asg (w := .int ((bt rs todo).length + p : Nat)) (ev_sbN (ev_var rfl) (ev_lwS hu ho hg)) rfl (w_asg (w := .int ((dn.length + 1 : Nat) : Int)) (fun _ _ q => q) rfl (kw_nil ih)))
theorem rw_pair {a b : Sy} : Rw (pv (a, b)) [a, b] := fun H k s h => sb_tup (by
  match k, h with
  | 0, h => exact congrArg (Option.map Sy.v) h
  | 1, h => exact congrArg (Option.map Sy.v) h
  | k + 2, h => cases h)
theorem two_ok {n : Nat} {a b : Sy} (ha : a.ok n) (hb : b.ok n) : RowOk n [a, b] := fun s hs => by
  rcases List.mem_cons.mp hs with rfl | hs
  · exact ha
  · rw [List.mem_singleton.mp hs]; exact hb
theorem lw_turn {rv : V} {p a m : Nat} {u : V} {L : List Sy} {H' : AH} {x6 : Option V} (hu : Rw u L) (ho : RowOk rs.length L) (e : pre ++ s :: post = L) (hp : p < (tx (Tx rs) s).length)
    (hr : ∀ k : Nat, Sb H' u (.int k) s.v → (∀ H, Sb H u (.int k) s.v) → WB (C3 ad (d + 1)) lwR ⟨lwS rs rv (.int p) u (.ref a) (.int k), H', H⟩ (Kw (C3 ad (d + 1)) (.bool true) lwB .nil (PK H Q) X m) X) : Wh (C3 ad (d + 1)) (.bool true) lwB .nil (PK H Q) X (m + 1) ⟨[some (.lst (rs.map pv)), some rv, some (.lst (szv (Tx rs))), some (.int ((bt rs pre).length + p : Nat)), some u, some (.ref a), x6], H', H⟩ := by
  refine wh_step (fun _ _ q => q) (w_asg (w := .int 0) (fun _ _ q => q) rfl (w_while (pre.length + 1) ?_))
  exact lwA_loop (rv := rv) (v := .ref a) (H' := H') hu ho hp (fun k hg => hr k (hu _ k _ hg) fun H => hu H k _ hg) pre [] e
theorem lw_open {rv : V} {p a m k : Nat} {a' b' : Sy} {u : V} {L : List Sy} {acc : List Nat} {H' : AH} {x6 : Option V} (hB : H a = none) (hu : Rw u L) (ho : RowOk rs.length L) (e : pre ++ .ru k :: post = L) (hp : p < (tx (Tx rs) (.ru k)).length) (hg : rs[k]? = some (a', b')) (ha : H' a = some (.list (nv acc))) (hl : acc.length < 600)
    (h : ∀ H' x, H' a = some (.list (nv (acc ++ [k]))) → Wh (C3 ad (d + 1)) (.bool true) lwB .nil (PK H Q) X m ⟨lwS rs rv (.int p) (pv (a', b')) (.ref a) x, H', H⟩) : Wh (C3 ad (d + 1)) (.bool true) lwB .nil (PK H Q) X (m + 1) ⟨[some (.lst (rs.map pv)), some rv, some (.lst (szv (Tx rs))), some (.int ((bt rs pre).length + p : Nat)), some u, some (.ref a), x6], H', H⟩ := by
  refine lw_turn hu ho e hp fun j hj hj2 => w_iff (fun _ _ q => hj _ q) (kn_nil (w_app (w := .int k) rfl ha hB (fun _ _ q => hj _ q) (sl (by rw [nv_length]; omega)) (w_asg (w := pv (a', b')) (fun _ _ q => hj2 _ _ (sb_rule (H := H) hg _ q)) rfl (kw_nil (h _ _ ?_)))))
  rw [← nv_snoc]; exact upd_eq
theorem lw_loop {rv : V} {p c a : Nat} {l : List Nat} (hr : RulesOk rs) (hB : H a = none) (w : Way rs s p c l) : ∀ (u : V) (L pre post : List Sy) (acc : List Nat) (H' : AH) (x6 : Option V), Rw u L → RowOk rs.length L → pre ++ s :: post = L → p < (tx (Tx rs) s).length → acc.length + l.length ≤ 600 → H' a = some (.list (nv acc)) → Q (.tup [.str ⟨#[c]⟩, .lst (nv (acc ++ l))]) →
    Wh (C3 ad (d + 1)) (.bool true) lwB .nil (PK H Q) X (l.length + 1) ⟨[some (.lst (rs.map pv)), some rv, some (.lst (szv (Tx rs))), some (.int ((bt rs pre).length + p : Nat)), some u, some (.ref a), x6], H', H⟩ := by
  induction w with
  | ch => exact fun u L pre post acc H' x6 hu ho e hp hl ha q => lw_turn hu ho e hp fun k hj _ => w_ift (fun _ _ q => hj _ q) (w_ret (w := .tup [.str ⟨#[_]⟩, .ref a]) (fun _ _ q => hj _ ⟨le2, q⟩) (show PK H Q (.ret _) ⟨lwS rs rv _ u (.ref a) _, H', H⟩ from pk_of (frz_two rfl (frz_ref hB ha fz_nv)) (List.append_nil acc ▸ q)))
  | left k a' b' p c l hg hp w ih =>
    have o := hr k _ hg
    have hk := Nat.le_of_lt (List.getElem?_eq_some_iff.mp hg).1
    have ih := ih (pv (a', b')) [a', b'] [] [b']
    rw [show (bt rs []).length + p = p from Nat.zero_add p] at ih
    exact fun u L pre post acc H' x6 hu ho e hp2 hl ha q => lw_open hB hu ho e hp2 hg ha (by simp at hl; omega) fun H' x ha => ih (acc ++ [k]) _ _ rw_pair (two_ok (o.1.mono hk) (o.2.mono hk)) rfl hp (by simp at hl ⊢; omega) ha (by rw [List.append_assoc]; exact q)
  | right k a' b' p c l hg hp w ih =>
    have o := hr k _ hg
    have hk := Nat.le_of_lt (List.getElem?_eq_some_iff.mp hg).1
    have ih := ih (pv (a', b')) [a', b'] [a'] []
    rw [show (bt rs [a']).length = (tx (Tx rs) a').length from congrArg List.length (List.append_nil _)] at ih
    exact fun u L pre post acc H' x6 hu ho e hp2 hl ha q => lw_open hB hu ho e hp2 hg ha (by simp at hl; omega) fun H' x ha => ih (acc ++ [k]) _ _ rw_pair (two_ok (o.1.mono hk) (o.2.mono hk)) rfl hp (by simp at hl ⊢; omega) ha (by rw [List.append_assoc]; exact q)
theorem ca_way {p c : Nat} {l : List Nat} (h : Bk rs row) (e : pre ++ s :: post = row) (hp : p < (tx (Tx rs) s).length) (w : Way rs s p c l) (hl : l.length ≤ 600) : Ca (C3 ad (d + 2)) "_law_way" [.lst (rs.map pv), .lst (row.map Sy.v), .lst (szv (Tx rs)), .int ((bt rs pre).length + p : Nat)] H (.tup [.str ⟨#[c]⟩, .lst (nv l)]) := ca_of (fn := L13.F_law_way) rfl rfl (by decide) fun Q X q => w_asg (w := .lst (row.map Sy.v)) (fun _ _ q => q) rfl (w_own0 rfl fun a h1 h2 => w_while (l.length + 1) (lw_loop (d := d) h.r h2 w _ row pre post [] _ _ (fun H k s h => sb_row h) h.w e hp (by simpa using hl) upd_eq q))
end
end Lib
end

section
set_option autoImplicit false
set_option linter.unusedSimpArgs false
set_option linter.unusedVariables false
namespace Lib
open PySem Mine
/-! cut, and the law's own stretch -/
/-- does the stretch meet what stands at p, n signs long -/
noncomputable def hit (S E p n : Nat) : Bool := decide (S < E) && (decide (p < E) && decide (S < p + n))
theorem hit_lt {S E p n : Nat} (h : hit S E p n = true) : S < E := of_decide_eq_true (Bool.and_eq_true_iff.mp h).1
inductive Ct (rs : List Rl) (S E : Nat) : Sy → Nat → List Nat → Nat → Prop
  | out (s : Sy) (p : Nat) (h : hit S E p ((tx (Tx rs) s).length) = false) : Ct rs S E s p [] 0
  | ch (c p : Nat) (h : hit S E p 1 = true) : Ct rs S E (.ch c) p [c] 0
  | ru (k p : Nat) (a b : Sy) (l1 l2 : List Nat) (o1 o2 : Nat) (h : hit S E p ((tx (Tx rs) (.ru k)).length) = true) (hg : rs[k]? = some (a, b)) (ha : Ct rs S E a p l1 o1) (hb : Ct rs S E b (p + (tx (Tx rs) a).length) l2 o2) : Ct rs S E (.ru k) p (l1 ++ l2) (o1 + o2 + 1)
inductive CtL (rs : List Rl) (S E : Nat) : List (Sy × Nat) → List Nat → Nat → Prop
  | nil : CtL rs S E [] [] 0
  | cons {s : Sy} {p : Nat} {l l' : List Nat} {o o' : Nat} {r : List (Sy × Nat)} (h : Ct rs S E s p l o) (hs : CtL rs S E r l' o') : CtL rs S E ((s, p) :: r) (l ++ l') (o + o')
noncomputable def offs (rs : List Rl) : Nat → List Sy → List (Sy × Nat)
  | _, [] => []
  | p, s :: r => (s, p) :: offs rs (p + (tx (Tx rs) s).length) r
noncomputable def sp2 (x : Sy × Nat) : V := .tup [x.1.v, .int (x.2 : Int)]
noncomputable def stp (w : List (Sy × Nat)) : List V := (w.map sp2).reverse
theorem stp_cons (x : Sy × Nat) (w : List (Sy × Nat)) : stp (x :: w) = stp w ++ [sp2 x] := by unfold stp; rw [List.map_cons, List.reverse_cons]
theorem stp_len (w : List (Sy × Nat)) : (stp w).length = w.length := by unfold stp; rw [List.length_reverse, List.length_map]
theorem offs_len (rs : List Rl) : ∀ (r : List Sy) (p : Nat), (offs rs p r).length = r.length
  | [], _ => rfl
  | s :: r, p => congrArg (· + 1) (offs_len rs r _)
theorem offs_snoc (rs : List Rl) : ∀ (a : List Sy) (p : Nat) (s : Sy), offs rs p (a ++ [s]) = offs rs p a ++ [(s, p + (bt rs a).length)]
  | [], p, s => rfl
  | t :: a, p, s => by
    show (t, p) :: offs rs (p + (tx (Tx rs) t).length) (a ++ [s]) = (t, p) :: (offs rs (p + (tx (Tx rs) t).length) a ++ _)
    rw [offs_snoc rs a, bt_cons, List.length_append, Nat.add_assoc]
theorem offs_ok (rs : List Rl) {n : Nat} : ∀ {r : List Sy} {p : Nat}, RowOk n r → ∀ x ∈ offs rs p r, x.1.ok n
  | s :: r, p, h, x, hx => by
    rcases List.mem_cons.mp hx with rfl | hx
    · exact h s (List.mem_cons_self ..)
    · exact offs_ok rs (fun z hz => h z (List.mem_cons_of_mem _ hz)) x hx
noncomputable def cl (S E x : Nat) : Nat := min (max x S) E
theorem ct_of {rs : List Rl} {S E : Nat} (hr : RulesOk rs) : ∀ (h : Nat) (s : Sy), s.ok h → h ≤ rs.length → ∀ p, ∃ l o, Ct rs S E s p l o ∧ l.length + cl S E p ≤ cl S E (p + (tx (Tx rs) s).length) := by
  have hout : ∀ p n, cl S E p ≤ cl S E (p + n) := fun p n => by unfold cl; omega
  intro h
  induction h with
  | zero =>
    intro s hs _ p
    cases s with
    | ru k => cases hs
    | ch c =>
      cases e : hit S E p 1
      · exact ⟨[], 0, .out _ _ e, by rw [List.length_nil, Nat.zero_add]; exact hout _ _⟩
      · refine ⟨[c], 0, .ch c p e, ?_⟩
        have e := (Bool.and_eq_true_iff.mp e).2
        have := of_decide_eq_true (Bool.and_eq_true_iff.mp e).1
        have := of_decide_eq_true (Bool.and_eq_true_iff.mp e).2
        show 1 + cl S E p ≤ cl S E (p + 1)
        unfold cl; omega
  | succ h ih =>
    intro s hs hh p
    cases s with
    | ch c => exact ih (.ch c) hs (Nat.le_of_succ_le hh) p
    | ru k =>
      cases e : hit S E p ((tx (Tx rs) (.ru k)).length)
      · exact ⟨[], 0, .out _ _ e, by rw [List.length_nil, Nat.zero_add]; exact hout _ _⟩
      · have hk : k < h + 1 := hs
        have hg := List.getElem?_eq_getElem (Nat.lt_of_lt_of_le hk hh)
        have o := hr k _ hg
        obtain ⟨l1, o1, c1, b1⟩ := ih _ (o.1.mono (Nat.lt_succ_iff.mp hk)) (Nat.le_of_succ_le hh) p
        obtain ⟨l2, o2, c2, b2⟩ := ih _ (o.2.mono (Nat.lt_succ_iff.mp hk)) (Nat.le_of_succ_le hh) (p + (tx (Tx rs) rs[k].1).length)
        refine ⟨_, _, .ru k p _ _ _ _ _ _ e hg c1 c2, ?_⟩
        have e5 : (tx (Tx rs) (.ru k)).length = (tx (Tx rs) rs[k].1).length + (tx (Tx rs) rs[k].2).length := (congrArg List.length (tx_rule hr hg)).trans List.length_append
        rw [List.length_append, e5, ← Nat.add_assoc]
        omega
theorem ctL_of {rs : List Rl} {S E : Nat} (hr : RulesOk rs) : ∀ (r : List Sy), RowOk rs.length r → ∀ p, ∃ l o, CtL rs S E (offs rs p r) l o ∧ l.length + cl S E p ≤ cl S E (p + (bt rs r).length)
  | [], _, p => ⟨[], 0, .nil, Nat.le_of_eq (Nat.zero_add _)⟩
  | s :: r, h, p => by
    obtain ⟨l1, o1, c1, b1⟩ := ct_of (S := S) (E := E) hr _ s (h s (List.mem_cons_self ..)) (Nat.le_refl _) p
    obtain ⟨l2, o2, c2, b2⟩ := ctL_of (S := S) (E := E) hr r (fun z hz => h z (List.mem_cons_of_mem _ hz)) (p + (tx (Tx rs) s).length)
    refine ⟨_, _, .cons c1 c2, ?_⟩
    rw [List.length_append, bt_cons, List.length_append, ← Nat.add_assoc]
    omega
theorem strs1 : ∀ (cs : List Nat), strsOf (ones cs) = some (cs.map fun c => ⟨#[c]⟩)
  | [] => rfl
  | c :: cs => by
    show (strsOf (ones cs)).map _ = _
    rw [strs1 cs]; rfl
theorem lenAll1 : ∀ (cs : List Nat), lenAll (cs.map fun c => (⟨#[c]⟩ : Str)) = cs.length
  | [] => rfl
  | c :: cs => by
    show 1 + lenAll (cs.map fun c => (⟨#[c]⟩ : Str)) = cs.length + 1
    rw [lenAll1 cs, Nat.add_comm]
noncomputable def jn (l : List Nat) : V := .str (Str.join (Str.ofString "") (l.map fun c => ⟨#[c]⟩))
theorem size_ref {H : AH} {a : Nat} {l : List V} (h : H a = some (.list l)) : sizeV H (.ref a) = some l.length := by
  show (match H a with
    | some (.list vs) => some vs.length
    | _ => none) = _
  rw [h]
theorem gt0 {C : Cx} {ρ : List (Option V)} {H B : AH} {a : Nat} {x : Sy × Nat} {w : List (Sy × Nat)} (h : ρ[5]? = some (some (.ref a))) (ha : H a = some (.list (stp (x :: w)))) : Ev C ⟨ρ, H, B⟩ (.cmp (.len (.var 5)) (.one .gt (.int 0))) (.bool true) := (show decide ((((stp (x :: w)).length : Nat) : Int) > 0) = true from decide_eq_true (by rw [stp_len]; exact Int.natCast_pos.mpr (Nat.succ_pos _))) ▸ ev_cmp (ev_len (ev_var h) (size_ref ha)) (ec_one ev_int cm_gt)
theorem gt1 {C : Cx} {ρ : List (Option V)} {H B : AH} {a : Nat} (h : ρ[5]? = some (some (.ref a))) (ha : H a = some (.list (stp []))) : Ev C ⟨ρ, H, B⟩ (.cmp (.len (.var 5)) (.one .gt (.int 0))) (.bool false) := ev_cmp (ev_len (n := 0) (ev_var h) (size_ref ha)) (ec_one ev_int cm_gt)
noncomputable def cwT : E := .cmp (.len (.var 5)) (.one .gt (.int 0))
noncomputable def cwX : Bl := .cons (.ite (.isinst (.sub (.var 10) (.int 0)) .str) (.cons (.append (.var 8) (.pure (.sub (.var 10) (.int 0)))) .nil) (.cons (.assign (.var 9) (.bin .add (.var 9) (.int 1))) (.cons (.assign (.var 12) (.sub (.sub (.var 0) (.int 0)) (.sub (.var 10) (.int 0)))) (.cons (.append (.var 5) (.pure (.tup (.cons (.sub (.var 12) (.int 1)) (.cons (.bin .add (.sub (.var 10) (.int 1)) (.call "length_of" (.cons (.sub (.var 12) (.int 0)) (.cons (.var 3) .nil)))) .nil))))) (.cons (.append (.var 5) (.pure (.tup (.cons (.sub (.var 12) (.int 0)) (.cons (.sub (.var 10) (.int 1)) .nil))))) .nil))))) .nil
noncomputable def cwC : E := .cmp (.max2 (.sub (.var 10) (.int 1)) (.var 1)) (.one .lt (.min2 (.var 11) (.var 2)))
noncomputable def cwB : Bl := .cons (.pop (.var 10) (.var 5)) (.cons (.assign (.var 11) (.bin .add (.sub (.var 10) (.int 1)) (.call "length_of" (.cons (.sub (.var 10) (.int 0)) (.cons (.var 3) .nil))))) (.cons (.ite cwC cwX .nil) .nil))
noncomputable def cwR : Bl := .cons (.ret (.tup (.cons (.join (.str (Str.ofString "")) (.var 8)) (.cons (.var 9) .nil)))) .nil
section
variable {ad d : Nat} {H : AH} {rs : List Rl} {row : List Sy} {S E a b : Nat}
theorem ones_snoc' (l : List Nat) (c : Nat) : ones (l ++ [c]) = ones l ++ [V.str ⟨#[c]⟩] := List.map_append ..
theorem ct_ret {Q : V → Prop} {X : String → St → Prop} {ρ : List (Option V)} {H' : AH} {l : List Nat} {o : Nat} (h8 : ρ[8]? = some (some (.ref b))) (h9 : ρ[9]? = some (some (.int o))) (hb : H' b = some (.list (ones l))) (hl : l.length ≤ 4000) (q : Q (.tup [jn l, .int o])) : WB (C3 ad d) cwR ⟨ρ, H', H⟩ (PK H Q) X := r1 (w := .tup [jn l, .int o]) (ev_tup (vs := [jn l, .int o]) (evs_cons (ev_join ev_str (ev_var h8) (seq_ref hb) (strs1 l) (by rw [lenAll1, show (Str.ofString "").length = 0 from rfl, Nat.zero_mul]; exact Nat.le_of_lt (sl (by omega)))) (evs_cons (ev_var h9) evs_nil)) rfl) (frz_two rfl rfl) q
/-! cut -/
noncomputable def ctB : Bl := .cons (.assign (.var 6) (.bin .sub (.var 6) (.call "length_of" (.cons (.var 7) (.cons (.var 3) .nil))))) (.cons (.append (.var 5) (.pure (.tup (.cons (.var 7) (.cons (.var 6) .nil))))) .nil)
theorem ct_for {Q : Fl → St → Prop} {X : String → St → Prop} {r : Bl} {v1 v2 v4 : V} (h : Bk rs row) (hB : H a = none) (hr : ∀ x H', H' a = some (.list (stp (offs rs 0 row))) → WB (C3 ad (d + 1)) r ⟨[some (bookV rs row), some v1, some v2, some (.lst (szv (Tx rs))), some v4, some (.ref a), some (.int 0), x, none, none, none, none, none], H', H⟩ Q X) : ∀ (rr dn : List Sy) (x : Option V) (H' : AH), rr.reverse ++ dn = row → H' a = some (.list (stp (offs rs (bt rs rr.reverse).length dn))) →
    Fo (C3 ad (d + 1)) (.var 7) ctB r Q X (rr.map Sy.v) ⟨[some (bookV rs row), some v1, some v2, some (.lst (szv (Tx rs))), some v4, some (.ref a), some (.int (bt rs rr.reverse).length), x, none, none, none, none, none], H', H⟩
  | [], dn, x, H', e, ha => by
    cases e
    exact fo_nil (hr x H' ha)
  | s :: rr, dn, x, H', e, ha => by
    have e2 : rr.reverse ++ (s :: dn) = row := by rw [← e, List.reverse_cons, List.append_assoc]; rfl
    have os : s.ok (Tx rs).length := by rw [Tx_length]; exact h.w s (by rw [← e2]; exact List.mem_append_right _ (List.mem_cons_self ..))
    have e3 : (bt rs (s :: rr).reverse).length = (tx (Tx rs) s).length + (bt rs rr.reverse).length := by
      rw [List.reverse_cons, bt_append, List.length_append, show (bt rs [s]).length = (tx (Tx rs) s).length from congrArg List.length (List.append_nil _), Nat.add_comm]
    have hdn : dn.length ≤ 2000 := by have := h.m; rw [← e2, List.length_append] at this; simp at this; omega
    rw [e3] at ha ⊢
    refine fo_cons (ρ' := [some (bookV rs row), some v1, some v2, some (.lst (szv (Tx rs))), some v4, some (.ref a), some (.int ((tx (Tx rs) s).length + (bt rs rr.reverse).length : Nat)), some s.v, none, none, none, none, none]) rfl (w_asg (w := .int (bt rs rr.reverse).length) (ev_sbN (ev_var rfl) (fun _ _ q => lof rfl os _ _ q)) rfl (w_app (w := sp2 (s, (bt rs rr.reverse).length)) rfl ha hB (fun _ _ q => ⟨le2, q⟩) (sl (by rw [stp_len, offs_len]; omega)) (kf_nil (ct_for h hB hr rr (s :: dn) _ _ e2 ?_))))
    rw [offs, stp_cons, Nat.add_comm]; exact upd_eq
noncomputable def cS (rs : List Rl) (row : List Sy) (S E a b : Nat) (v4 : V) (x7 : Option V) (o : Nat) (y z u : Option V) : List (Option V) := [some (bookV rs row), some (.int S), some (.int E), some (.lst (szv (Tx rs))), some v4, some (.ref a), some (.int 0), x7, some (.ref b), some (.int o), y, z, u]
variable {Q : V → Prop} {X : String → St → Prop} {v4 : V} {x7 : Option V}
noncomputable abbrev cW (ad d : Nat) (H : AH) (Q : V → Prop) (X : String → St → Prop) (m : Nat) (ρ : List (Option V)) (H' : AH) : Prop := Wh (C3 ad (d + 1)) cwT cwB cwR (PK H Q) X m ⟨ρ, H', H⟩
theorem hit_max {p n : Nat} (hn : 1 ≤ n) : decide (max (p : Int) S < min ((p : Int) + n) E) = hit S E p n := by
  unfold hit
  rw [← Bool.decide_and, ← Bool.decide_and, decide_eq_decide]; omega
theorem ct_turn {s : Sy} {p m o : Nat} {W : List (Sy × Nat)} {y z u : Option V} {H' : AH} {g : Bool} (hr : RulesOk rs) (ok : s.ok rs.length) (hB : H a = none) (ha : H' a = some (.list (stp ((s, p) :: W)))) (hg : hit S E p ((tx (Tx rs) s).length) = g)
    (hb : WB (C3 ad (d + 1)) (if g then cwX else .nil) ⟨cS rs row S E a b v4 x7 o (some (sp2 (s, p))) (some (.int ((p : Int) + (tx (Tx rs) s).length))) u, H'.upd a (.list (stp W)), H⟩ (Kn (C3 ad (d + 1)) .nil (Kw (C3 ad (d + 1)) cwT cwB cwR (PK H Q) X m) X) X) : cW ad d H Q X (m + 1) (cS rs row S E a b v4 x7 o y z u) H' := by
  have hn : 1 ≤ (tx (Tx rs) s).length := tx_pos hr ok
  have hc := (hit_max (p := p) hn).trans hg
  rw [stp_cons] at ha
  refine wh_step (gt0 (x := (s, p)) (w := W) rfl (stp_cons _ _ ▸ ha)) (w_pop (ρ' := cS rs row S E a b v4 x7 o (some (sp2 (s, p))) z u) rfl ha hB rfl (w_asg (w := .int ((p : Int) + (tx (Tx rs) s).length)) (fun _ _ q => lof rfl (by rw [Tx_length]; exact ok) _ _ q) rfl ?_))
  refine w_if g (hc ▸ ev_cmp (ev_max2 (fun _ _ q => q) (ev_var rfl)) (ec_one (ev_min2 (ev_var rfl) (ev_var rfl)) cm_lt)) (fun e => ?_) fun e => ?_
  · subst e; exact hb
  · subst e; exact hb
theorem ct_one (hr : RulesOk rs) (hA : H a = none) (hB : H b = none) (hab : a ≠ b) {s : Sy} {p : Nat} {l : List Nat} {o : Nat} (w : Ct rs S E s p l o) : ∀ (h : Nat), s.ok h → h ≤ rs.length → ∀ (W : List (Sy × Nat)) (sg : List Nat) (op : Nat) (y z u : Option V) (H' : AH), W.length + h ≤ 3000 → sg.length + l.length ≤ 4000 → H' a = some (.list (stp ((s, p) :: W))) → H' b = some (.list (ones sg)) →
    (∀ y z u H', H' a = some (.list (stp W)) → H' b = some (.list (ones (sg ++ l))) → ∃ m, cW ad d H Q X m (cS rs row S E a b v4 x7 (op + o) y z u) H') → ∃ m, cW ad d H Q X m (cS rs row S E a b v4 x7 op y z u) H' := by
  induction w with
  | out s p h =>
    intro hh ok hk W sg op y z u H' _ _ ha hb c
    obtain ⟨m, hm⟩ := c (some (sp2 (s, p))) (some (.int ((p : Int) + (tx (Tx rs) s).length))) u (H'.upd a (.list (stp W))) upd_eq (by rw [upd_ne (Ne.symm hab), List.append_nil]; exact hb)
    exact ⟨m + 1, ct_turn hr (ok.mono hk) hA ha h (kn_nil (kw_nil hm))⟩
  | ch c p h =>
    intro hh ok hk W sg op y z u H' _ hl ha hb cc
    obtain ⟨m, hm⟩ := cc (some (sp2 (.ch c, p))) (some (.int ((p : Int) + 1))) u ((H'.upd a (.list (stp W))).upd b (.list (ones sg ++ [.str ⟨#[c]⟩]))) (by rw [upd_ne hab]; exact upd_eq) (by rw [ones_snoc']; exact upd_eq)
    exact ⟨m + 1, ct_turn hr (ok.mono hk) hA ha h (w_ift (fun _ _ q => q) (w_app (w := .str ⟨#[c]⟩) rfl (by rw [upd_ne (Ne.symm hab)]; exact hb) hB (fun _ _ q => q) (sl (by unfold ones; rw [List.length_map]; simp at hl; omega)) (kn_nil (kn_nil (kw_nil hm)))))⟩
  | ru k p a' b' l1 l2 o1 o2 h hg _ _ ih1 ih2 =>
    intro hh ok hk W sg op y z u H' hw hl ha hb cc
    have hkh : k < hh := ok
    have ok2 := hr k _ hg
    have hkr := (List.getElem?_eq_some_iff.mp hg).1
    rw [List.length_append] at hl
    obtain ⟨m, hm⟩ := ih1 k ok2.1 (Nat.le_of_lt hkr) ((b', p + (tx (Tx rs) a').length) :: W) sg (op + 1) (some (sp2 (.ru k, p))) (some (.int ((p : Int) + (tx (Tx rs) (.ru k)).length))) (some (pv (a', b'))) (((H'.upd a (.list (stp W))).upd a (.list (stp ((b', p + (tx (Tx rs) a').length) :: W)))).upd a (.list (stp ((a', p) :: (b', p + (tx (Tx rs) a').length) :: W)))) (by rw [List.length_cons]; omega) (by omega) upd_eq (by rw [upd_ne (Ne.symm hab), upd_ne (Ne.symm hab), upd_ne (Ne.symm hab)]; exact hb) fun y z u H' ha hb => ih2 k ok2.2 (Nat.le_of_lt hkr) W (sg ++ l1) (op + 1 + o1) y z u H' (by omega) (by rw [List.length_append]; omega) ha hb fun y z u H' ha hb => by
      rw [show op + 1 + o1 + o2 = op + (o1 + o2 + 1) by omega]
      exact cc y z u H' ha (by rw [← List.append_assoc]; exact hb)
    rw [stp_cons (a', p), stp_cons (b', p + (tx (Tx rs) a').length)] at hm
    have e := stp_cons (b', p + (tx (Tx rs) a').length) W
    exact ⟨m + 1, ct_turn hr (ok.mono hk) hA ha h (w_iff (fun _ _ q => q) (w_asg (w := .int ((op + 1 : Nat) : Int)) (fun _ _ q => q) rfl (w_asg (w := pv (a', b')) (fun _ _ q => sb_rule (H := H) hg _ q) rfl (w_app (w := sp2 (b', p + (tx (Tx rs) a').length)) rfl upd_eq hA (fun _ _ q => lof rfl (by rw [Tx_length]; exact ok2.1.mono (Nat.le_of_lt hkr)) _ _ ⟨le2, q⟩) (sl (by rw [stp_len]; omega)) (w_app (w := sp2 (a', p)) rfl upd_eq hA (fun _ _ q => ⟨le2, q⟩) (sl (by rw [← e, stp_len, List.length_cons]; omega)) (kn_nil (kn_nil (kw_nil hm))))))))⟩
theorem ct_all (hr : RulesOk rs) (hn : rs.length ≤ 600) (hA : H a = none) (hB : H b = none) (hab : a ≠ b) {w : List (Sy × Nat)} {l : List Nat} {o : Nat} (c : CtL rs S E w l o) : (∀ x ∈ w, x.1.ok rs.length) → ∀ (sg : List Nat) (op : Nat) (y z u : Option V) (H' : AH), w.length ≤ 2000 → sg.length + l.length ≤ 4000 → H' a = some (.list (stp w)) → H' b = some (.list (ones sg)) → Q (.tup [jn (sg ++ l), .int (op + o : Nat)]) →
    ∃ m, cW ad d H Q X m (cS rs row S E a b v4 x7 op y z u) H' := by
  induction c with
  | nil => exact fun _ sg op y z u H' _ hl ha hb q => ⟨1, wh_end (gt1 rfl ha) (ct_ret (o := op) rfl rfl hb (by simpa using hl) (by rw [List.append_nil] at q; exact q))⟩
  | cons c cs ih =>
    intro ok sg op y z u H' hw hl ha hb q
    rw [List.length_append] at hl
    rw [List.length_cons] at hw
    refine ct_one hr hA hB hab c _ (ok _ (List.mem_cons_self ..)) (Nat.le_refl _) _ sg op y z u H' (by omega) (by omega) ha hb fun y z u H' ha hb => ih (fun x hx => ok x (List.mem_cons_of_mem _ hx)) _ _ y z u H' (by omega) (by rw [List.length_append]; omega) ha hb ?_
    rw [List.append_assoc, Nat.add_assoc]; exact q
theorem ctL_same (e : ¬ S < E) {w : List (Sy × Nat)} {l : List Nat} {o : Nat} (c : CtL rs S E w l o) : l = [] ∧ o = 0 := by
  induction c with
  | nil => exact ⟨rfl, rfl⟩
  | cons c cs ih =>
    rw [ih.1, ih.2]
    cases c with
    | out => exact ⟨rfl, rfl⟩
    | ch c p h => exact absurd (hit_lt h) e
    | ru k p a b l1 l2 o1 o2 h => exact absurd (hit_lt h) e
theorem ca_cut {l : List Nat} {o : Nat} (h : Bk rs row) (hSE : S ≤ E) (hE : E ≤ (bt rs row).length) (w : CtL rs S E (offs rs 0 row) l o) (hl : l.length ≤ 4000) : Ca (C3 ad (d + 6)) "cut" [bookV rs row, .int S, .int E] H (.tup [jn l, .int o]) := ca_of (fn := L13.F_cut) rfl rfl (by decide) fun Q X q => by
  have g0 : decide ((0 : Int) ≤ S) = true := decide_eq_true (Int.natCast_nonneg _)
  have g1 : decide ((S : Int) ≤ E) = true := decide_eq_true (Int.ofNat_le.mpr hSE)
  have g2 : decide ((E : Int) ≤ (bt rs row).length) = true := decide_eq_true (Int.ofNat_le.mpr hE)
  refine w_asg (w := .lst (szv (Tx rs))) (fun _ _ q => ca_lens h _ _ q) rfl (w_asg (w := .int (bt rs row).length) (fun _ _ q => ca_total h _ _ q) rfl (w_iff (ev_or (p := false) (q := false) (fun _ _ q => wh_nt _ _ q) fun _ => ev_or (p := false) (q := false) (fun _ _ q => wh_nt _ _ q) fun _ => ev_not (b := true) (ev_cmp ev_int (ec_more (p := true) (q := true) (ev_var rfl) (g0 ▸ cm_le) fun _ => ec_more (p := true) (q := true) (ev_var rfl) (g1 ▸ cm_le) fun _ => ec_one (ev_var rfl) (g2 ▸ cm_le)))) (kn_nil (w_own0 rfl fun a h1 h2 => w_asg (w := .int (bt rs row).length) (ev_var rfl) rfl (w_for (xs := row.reverse.map Sy.v) (ds := []) (fun _ _ q => ?_) (.inr nofun) ?_)))))
  · rw [List.map_reverse] at q; exact q
  · have hf := ct_for (ad := ad) (d := d + 4) (Q := PK H Q) (X := fun x _ => X x) (v1 := .int S) (v2 := .int E) (v4 := .int (bt rs row).length) (r := .cons (.own 8 (.list .nil)) (.cons (.assign (.var 9) (.int 0)) (.cons (.while cwT cwB) cwR))) h h2 (fun x H' ha => w_own0 rfl fun b b1 b2 => w_asg (w := .int 0) (fun _ _ q => q) rfl ?_) row.reverse [] none (H.upd a (.list [])) (by rw [List.reverse_reverse, List.append_nil]) upd_eq
    · rw [List.reverse_reverse] at hf
      exact hf
    · have hab : a ≠ b := fun e => by rw [← e, ha] at b1; cases b1
      obtain ⟨m, hm⟩ := ct_all (ad := ad) (d := d + 4) (row := row) (Q := Q) (X := fun x _ => X x) (v4 := .int (bt rs row).length) (x7 := x) h.r h.n h2 b2 hab w (offs_ok rs h.w) [] 0 none none none (H'.upd b (.list [])) (by rw [offs_len]; exact h.m) (by simpa using hl) (by rw [upd_ne hab]; exact ha) upd_eq (by rw [Nat.zero_add]; exact q)
      exact w_while m hm
end
end Lib
end

section
set_option autoImplicit false
set_option linter.unusedSimpArgs false
set_option linter.unusedVariables false
namespace Lib
open PySem Mine
/-! the law's own stretch -/
noncomputable def isCh : Sy → Bool
  | .ch _ => true
  | .ru _ => false
theorem isT_sy {H : AH} (s : Sy) : isT H .str s.v = some (isCh s) := by cases s <;> rfl
noncomputable def stC : E := .cmp (.var 6) (.one .lt (.var 4))
noncomputable def stD : E := .cmp (.bin .add (.var 6) (.call "_law_size" (.cons (.var 7) (.cons (.var 2) .nil)))) (.one .gt (.var 3))
noncomputable def stX : Bl := .cons (.append (.var 8) (.pure (.var 7))) .nil
noncomputable def stY : Bl := .cons (.assign (.var 9) (.bin .add (.var 9) (.int 1))) (.cons (.assign (.tup [10, 11]) (.sub (.var 0) (.var 7))) (.cons (.append (.var 5) (.pure (.tup (.cons (.var 11) (.cons (.bin .add (.var 6) (.call "_law_size" (.cons (.var 10) (.cons (.var 2) .nil)))) .nil))))) (.cons (.append (.var 5) (.pure (.tup (.cons (.var 10) (.cons (.var 6) .nil))))) .nil)))
noncomputable def stI : Bl := .cons (.ite (.and stC (.and stD (.isinst (.var 7) .str))) stX (.cons (.ite (.and stC stD) stY .nil) .nil)) .nil
noncomputable def stB : Bl := .cons (.pop (.tup [7, 6]) (.var 5)) stI
noncomputable def stF : Bl := .cons (.append (.var 5) (.pure (.tup (.cons (.var 7) (.cons (.var 6) .nil))))) (.cons (.assign (.var 6) (.bin .add (.var 6) (.call "_law_size" (.cons (.var 7) (.cons (.var 2) .nil))))) .nil)
noncomputable def stS (rs : List Rl) (rv : V) (S E a b : Nat) (x6 x7 : Option V) (o : Nat) (y z : Option V) : List (Option V) := [some (.lst (rs.map pv)), some rv, some (.lst (szv (Tx rs))), some (.int S), some (.int E), some (.ref a), x6, x7, some (.ref b), some (.int o), y, z]
section
variable {ad d : Nat} {H : AH} {rs : List Rl} {row : List Sy} {S E a b : Nat} {Q : V → Prop} {X : String → St → Prop} {rv : V}
theorem st_for {Q : Fl → St → Prop} {r : Bl} (h : Bk rs row) (hB : H a = none) (hr : ∀ x y H', H' a = some (.list ((offs rs 0 row).map sp2)) → WB (C3 ad (d + 1)) r ⟨[some (.lst (rs.map pv)), some rv, some (.lst (szv (Tx rs))), some (.int S), some (.int E), some (.ref a), x, y, none, none, none, none], H', H⟩ Q X) : ∀ (rr pre : List Sy) (x : Option V) (H' : AH), pre ++ rr = row → H' a = some (.list ((offs rs 0 pre).map sp2)) →
    Fo (C3 ad (d + 1)) (.var 7) stF r Q X (rr.map Sy.v) ⟨[some (.lst (rs.map pv)), some rv, some (.lst (szv (Tx rs))), some (.int S), some (.int E), some (.ref a), some (.int (bt rs pre).length), x, none, none, none, none], H', H⟩
  | [], pre, x, H', e, ha => fo_nil (hr _ x H' (cat0 e ▸ ha))
  | s :: rr, pre, x, H', e, ha => by
    have os : s.ok (Tx rs).length := by rw [Tx_length]; exact h.w s (List.mem_of_getElem? (at_pre e))
    have hp := pre_le e
    have hm := h.m
    have ih := st_for h hB hr rr (pre ++ [s]) (some s.v) (H'.upd a (.list ((offs rs 0 pre).map sp2 ++ [sp2 (s, (bt rs pre).length)]))) (cat1 e) (by rw [offs_snoc, List.map_append, Nat.zero_add]; exact upd_eq)
    rw [bt_append, List.length_append, show (bt rs [s]).length = (tx (Tx rs) s).length from congrArg List.length (List.append_nil _)] at ih
    exact fo_cons (ρ' := [some (.lst (rs.map pv)), some rv, some (.lst (szv (Tx rs))), some (.int S), some (.int E), some (.ref a), some (.int (bt rs pre).length), some s.v, none, none, none, none]) rfl (w_app (w := sp2 (s, (bt rs pre).length)) rfl ha hB (fun _ _ q => ⟨le2, q⟩) (sl (by rw [List.length_map, offs_len]; omega)) (w_asg (w := .int (((bt rs pre).length + (tx (Tx rs) s).length : Nat) : Int)) (fun _ _ q => szf rfl os _ _ q) rfl (kf_nil ih)))
theorem hit_and {p n : Nat} (hSE : S < E) : (decide ((p : Int) < E) && decide ((p : Int) + n > S)) = hit S E p n := by
  unfold hit
  rw [decide_eq_true hSE, Bool.true_and, show decide ((p : Int) < E) = decide (p < E) from decide_eq_decide.mpr Int.ofNat_lt, show decide ((p : Int) + n > S) = decide (S < p + n) from decide_eq_decide.mpr (Int.ofNat_lt (n := S) (m := p + n))]
theorem ev_st1 {s : Sy} {p o : Nat} {y z : Option V} {H' : AH} (hSE : S < E) (ok : s.ok rs.length) : Ev (C3 ad (d + 1)) ⟨stS rs rv S E a b (some (.int p)) (some s.v) o y z, H', H⟩ (.and stC (.and stD (.isinst (.var 7) .str))) (.bool (hit S E p (tx (Tx rs) s).length && isCh s)) := by
  rw [← hit_and hSE, Bool.and_assoc]
  exact ev_and (ev_cmp (ev_var rfl) (ec_one (ev_var rfl) cm_lt)) fun _ => ev_and (ev_cmp (fun _ _ q => szf rfl (by rw [Tx_length]; exact ok) _ _ q) (ec_one (ev_var rfl) cm_gt)) fun _ => ev_isi (ev_var rfl) (isT_sy s)
theorem ev_st2 {s : Sy} {p o : Nat} {y z : Option V} {H' : AH} (hSE : S < E) (ok : s.ok rs.length) : Ev (C3 ad (d + 1)) ⟨stS rs rv S E a b (some (.int p)) (some s.v) o y z, H', H⟩ (.and stC stD) (.bool (hit S E p (tx (Tx rs) s).length)) := by
  rw [← hit_and hSE]
  exact ev_and (ev_cmp (ev_var rfl) (ec_one (ev_var rfl) cm_lt)) fun _ => ev_cmp (fun _ _ q => szf rfl (by rw [Tx_length]; exact ok) _ _ q) (ec_one (ev_var rfl) cm_gt)
noncomputable abbrev sW (ad d : Nat) (H : AH) (Q : V → Prop) (X : String → St → Prop) (m : Nat) (ρ : List (Option V)) (H' : AH) : Prop := Wh (C3 ad (d + 1)) cwT stB cwR (PK H Q) X m ⟨ρ, H', H⟩
theorem st_pop {s : Sy} {p m o : Nat} {W : List (Sy × Nat)} {x6 x7 y z : Option V} {H' : AH} (hB : H a = none) (ha : H' a = some (.list (stp ((s, p) :: W))))
    (hb : WB (C3 ad (d + 1)) stI ⟨stS rs rv S E a b (some (.int p)) (some s.v) o y z, H'.upd a (.list (stp W)), H⟩ (Kw (C3 ad (d + 1)) cwT stB cwR (PK H Q) X m) X) : sW ad d H Q X (m + 1) (stS rs rv S E a b x6 x7 o y z) H' := by
  rw [stp_cons] at ha
  exact wh_step (gt0 (x := (s, p)) (w := W) rfl (stp_cons _ _ ▸ ha)) (w_pop (ρ' := stS rs rv S E a b (some (.int p)) (some s.v) o y z) rfl ha hB rfl hb)
theorem st_one (hr : RulesOk rs) (hSE : S < E) (hA : H a = none) (hB : H b = none) (hab : a ≠ b) {s : Sy} {p : Nat} {l : List Nat} {o : Nat} (w : Ct rs S E s p l o) : ∀ (h : Nat), s.ok h → h ≤ rs.length → ∀ (W : List (Sy × Nat)) (sg : List Nat) (op : Nat) (x6 x7 y z : Option V) (H' : AH), W.length + h ≤ 3000 → sg.length + l.length ≤ 4000 → H' a = some (.list (stp ((s, p) :: W))) → H' b = some (.list (ones sg)) →
    (∀ x6 x7 y z H', H' a = some (.list (stp W)) → H' b = some (.list (ones (sg ++ l))) → ∃ m, sW ad d H Q X m (stS rs rv S E a b x6 x7 (op + o) y z) H') → ∃ m, sW ad d H Q X m (stS rs rv S E a b x6 x7 op y z) H' := by
  induction w with
  | out s p h =>
    intro hh ok hk W sg op x6 x7 y z H' _ _ ha hb c
    obtain ⟨m, hm⟩ := c (some (.int p)) (some s.v) y z (H'.upd a (.list (stp W))) upd_eq (by rw [upd_ne (Ne.symm hab), List.append_nil]; exact hb)
    have e1 := ev_st1 (ad := ad) (d := d) (H := H) (rv := rv) (a := a) (b := b) (p := p) (o := op) (y := y) (z := z) (H' := H'.upd a (.list (stp W))) hSE (ok.mono hk)
    have e2 := ev_st2 (ad := ad) (d := d) (H := H) (rv := rv) (a := a) (b := b) (p := p) (o := op) (y := y) (z := z) (H' := H'.upd a (.list (stp W))) hSE (ok.mono hk)
    rw [h] at e1 e2
    exact ⟨m + 1, st_pop hA ha (w_iff e1 (w_iff e2 (kn_nil (kn_nil (kw_nil hm)))))⟩
  | ch c p h =>
    intro hh ok hk W sg op x6 x7 y z H' _ hl ha hb cc
    obtain ⟨m, hm⟩ := cc (some (.int p)) (some (.str ⟨#[c]⟩)) y z ((H'.upd a (.list (stp W))).upd b (.list (ones sg ++ [.str ⟨#[c]⟩]))) (by rw [upd_ne hab]; exact upd_eq) (by rw [ones_snoc']; exact upd_eq)
    have e1 := ev_st1 (ad := ad) (d := d) (H := H) (rv := rv) (a := a) (b := b) (p := p) (o := op) (y := y) (z := z) (H' := H'.upd a (.list (stp W))) hSE (ok.mono hk)
    rw [show hit S E p (tx (Tx rs) (.ch c)).length = true from h] at e1
    exact ⟨m + 1, st_pop hA ha (w_ift e1 (w_app (w := .str ⟨#[c]⟩) rfl (by rw [upd_ne (Ne.symm hab)]; exact hb) hB (fun _ _ q => q) (sl (by unfold ones; rw [List.length_map]; simp at hl; omega)) (kn_nil (kw_nil hm))))⟩
  | ru k p a' b' l1 l2 o1 o2 h hg _ _ ih1 ih2 =>
    intro hh ok hk W sg op x6 x7 y z H' hw hl ha hb cc
    have hkh : k < hh := ok
    have ok2 := hr k _ hg
    have hkr := (List.getElem?_eq_some_iff.mp hg).1
    rw [List.length_append] at hl
    obtain ⟨m, hm⟩ := ih1 k ok2.1 (Nat.le_of_lt hkr) ((b', p + (tx (Tx rs) a').length) :: W) sg (op + 1) (some (.int p)) (some (.int k)) (some a'.v) (some b'.v) (((H'.upd a (.list (stp W))).upd a (.list (stp ((b', p + (tx (Tx rs) a').length) :: W)))).upd a (.list (stp ((a', p) :: (b', p + (tx (Tx rs) a').length) :: W)))) (by rw [List.length_cons]; omega) (by omega) upd_eq (by rw [upd_ne (Ne.symm hab), upd_ne (Ne.symm hab), upd_ne (Ne.symm hab)]; exact hb) fun x6 x7 y z H' ha hb => ih2 k ok2.2 (Nat.le_of_lt hkr) W (sg ++ l1) (op + 1 + o1) x6 x7 y z H' (by omega) (by rw [List.length_append]; omega) ha hb fun x6 x7 y z H' ha hb => by
      rw [show op + 1 + o1 + o2 = op + (o1 + o2 + 1) by omega]
      exact cc x6 x7 y z H' ha (by rw [← List.append_assoc]; exact hb)
    rw [stp_cons (a', p), stp_cons (b', p + (tx (Tx rs) a').length)] at hm
    have e := stp_cons (b', p + (tx (Tx rs) a').length) W
    have e1 := ev_st1 (ad := ad) (d := d) (H := H) (rv := rv) (a := a) (b := b) (p := p) (o := op) (y := y) (z := z) (H' := H'.upd a (.list (stp W))) hSE (ok.mono hk)
    have e2 := ev_st2 (ad := ad) (d := d) (H := H) (rv := rv) (a := a) (b := b) (p := p) (o := op) (y := y) (z := z) (H' := H'.upd a (.list (stp W))) hSE (ok.mono hk)
    rw [h] at e1 e2
    exact ⟨m + 1, st_pop hA ha (w_iff e1 (w_ift e2 (w_asg (w := .int ((op + 1 : Nat) : Int)) (fun _ _ q => q) rfl (w_asgt (vs := [a'.v, b'.v]) (fun _ _ q => sb_rule (H := H) hg _ q) rfl (w_app (w := sp2 (b', p + (tx (Tx rs) a').length)) rfl upd_eq hA (fun _ _ q => szf rfl (by rw [Tx_length]; exact ok2.1.mono (Nat.le_of_lt hkr)) _ _ ⟨le2, q⟩) (sl (by rw [stp_len]; omega)) (w_app (w := sp2 (a', p)) rfl upd_eq hA (fun _ _ q => ⟨le2, q⟩) (sl (by rw [← e, stp_len, List.length_cons]; omega)) (kn_nil (kn_nil (kw_nil hm)))))))))⟩
theorem st_all (hr : RulesOk rs) (hn : rs.length ≤ 600) (hSE : S < E) (hA : H a = none) (hB : H b = none) (hab : a ≠ b) {w : List (Sy × Nat)} {l : List Nat} {o : Nat} (c : CtL rs S E w l o) : (∀ x ∈ w, x.1.ok rs.length) → ∀ (sg : List Nat) (op : Nat) (x6 x7 y z : Option V) (H' : AH), w.length ≤ 2000 → sg.length + l.length ≤ 4000 → H' a = some (.list (stp w)) → H' b = some (.list (ones sg)) → Q (.tup [jn (sg ++ l), .int (op + o : Nat)]) →
    ∃ m, sW ad d H Q X m (stS rs rv S E a b x6 x7 op y z) H' := by
  induction c with
  | nil => exact fun _ sg op x6 x7 y z H' _ hl ha hb q => ⟨1, wh_end (gt1 rfl ha) (ct_ret (o := op) rfl rfl hb (by simpa using hl) (by rw [List.append_nil] at q; exact q))⟩
  | cons c cs ih =>
    intro ok sg op x6 x7 y z H' hw hl ha hb q
    rw [List.length_append] at hl
    rw [List.length_cons] at hw
    refine st_one hr hSE hA hB hab c _ (ok _ (List.mem_cons_self ..)) (Nat.le_refl _) _ sg op x6 x7 y z H' (by omega) (by omega) ha hb fun x6 x7 y z H' ha hb => ih (fun x hx => ok x (List.mem_cons_of_mem _ hx)) _ _ x6 x7 y z H' (by omega) (by rw [List.length_append]; omega) ha hb ?_
    rw [List.append_assoc, Nat.add_assoc]; exact q
theorem ca_str {l : List Nat} {o : Nat} (h : Bk rs row) (hSE : S < E) (w : CtL rs S E (offs rs 0 row) l o) (hl : l.length ≤ 4000) : Ca (C3 ad (d + 2)) "_law_stretch" [.lst (rs.map pv), .lst (row.map Sy.v), .lst (szv (Tx rs)), .int S, .int E] H (.tup [jn l, .int o]) := ca_of (fn := L13.F_law_stretch) rfl rfl (by decide) fun Q X q => by
  have hm := h.m
  have hf := fun a (h2 : H a = none) => st_for (ad := ad) (d := d) (Q := PK H Q) (X := fun x _ => X x) (rv := .lst (row.map Sy.v)) (S := S) (E := E) (r := .cons (.own 5 (.thaw (.listOf (.rev (.var 5))))) (.cons (.own 8 (.list .nil)) (.cons (.assign (.var 9) (.int 0)) (.cons (.while cwT stB) cwR)))) h h2 (fun x y H' ha => w_thaw (ev_listOf (ei_rev (ev_var rfl) (seq_ref ha)) (by rw [List.length_reverse, List.length_map, offs_len]; exact Nat.le_of_lt (sl (by omega)))) rfl fun a2 a3 a4 => w_own0 rfl fun b b1 b2 => w_asg (w := .int 0) (fun _ _ q => q) rfl (by
    have hab : a2 ≠ b := Ne.symm (of_upd (o' := .list []) b1)
    obtain ⟨m, hm⟩ := st_all (ad := ad) (d := d) (Q := Q) (X := fun x _ => X x) (rv := .lst (row.map Sy.v)) h.r h.n hSE a4 b2 hab w (offs_ok rs h.w) [] 0 x y none none ((H'.upd a2 (.list ((offs rs 0 row).map sp2).reverse)).upd b (.list [])) (by rw [offs_len]; exact h.m) (by simpa using hl) (by rw [upd_ne hab]; exact upd_eq) upd_eq (by rw [Nat.zero_add]; exact q)
    exact w_while m hm)) row [] none (H.upd a (.list [])) rfl upd_eq
  exact w_own0 rfl fun a h1 h2 => w_asg (w := .int 0) (fun _ _ q => q) rfl (w_for (xs := row.map Sy.v) (ds := []) (fun _ _ q => q) (.inr nofun) (hf a h2))
end
end Lib
end

section
set_option autoImplicit false
set_option linter.unusedSimpArgs false
set_option linter.unusedVariables false
namespace Lib
open PySem Mine
/-! pieces of a text, and where a word stands in them -/
noncomputable def pn : List String := ["size", "head", "tail", "times", "first"]
noncomputable def pcL (sz : Int) (h t : List Nat) (tm : Int) (fi : V) : List V := [.int sz, lst h, lst t, .int tm, fi]
noncomputable def fV : Option Nat → V
  | some k => .int k
  | none => .none
noncomputable def pcV (ad : Nat) (W : List Nat) (m : Nat) (t : List Nat) : V := .inst ad pn (pcL t.length (t.take m) (tl m t) (occs W t).length (fV (occs W t).head?))
theorem fz_fV {H H' : AH} {n : Nat} (o : Option Nat) : frz H' H (n + 1) (fV o) = some (fV o) := by cases o <;> rfl
theorem fz_pcL {H H' : AH} {n : Nat} {sz : Int} {h t : List Nat} {tm : Int} (o : Option Nat) : mapO (frz H' H (n + 1)) (pcL sz h t tm (fV o)) = some (pcL sz h t tm (fV o)) := by cases o <;> rfl
theorem fz_pc {H H' : AH} {n ad m : Nat} {W t : List Nat} : frz H' H (n + 2) (pcV ad W m t) = some (pcV ad W m t) := by
  show (mapO (frz H' H (n + 1)) (pcL _ _ _ _ (fV _))).map (V.inst ad pn) = _
  rw [fz_pcL]; rfl
theorem fz_iref {H H' : AH} {n a ad : Nat} {sz : Int} {h t : List Nat} {tm : Int} {o : Option Nat} (h0 : H a = none) (h1 : H' a = some (.inst ad pn (pcL sz h t tm (fV o)))) : frz H' H (n + 2) (.iref ad pn a) = some (.inst ad pn (pcL sz h t tm (fV o))) := by
  show (match H a with
      | some _ => some (V.iref ad pn a)
      | none => (match H' a with
        | some (.inst _ ns' vs) => if ns' = pn then (mapO (frz H' H (n + 1)) vs).map (.inst ad pn) else none
        | _ => none)) = _
  rw [h0, h1]
  show (if pn = pn then (mapO (frz H' H (n + 1)) (pcL sz h t tm (fV o))).map (V.inst ad pn) else none) = _
  rw [if_pos rfl, fz_pcL]; rfl
theorem has_pc {ad : Nat} : hasC (L13.ctab ad) ad pn = true := by
  show ((decide (ad = ad) && decide (pn = pn)) || false) = true
  simp
section
variable {ad d : Nat} {H : AH} {ρ : List (Option V)} {B : AH} {Q : Fl → St → Prop} {X : String → St → Prop} {b : Bl} {i a : Nat} {n : String} {vs vs' : List V} {w : V}
theorem ev_at (h : ρ[i]? = some (some (.inst ad pn vs))) (hn : attrL n pn vs = some w) : Ev (C3 ad d) ⟨ρ, H, B⟩ (.attr (.var i) n) w := fun Q X q => ev_var (C := C3 ad d) (H := H) (B := B) h _ X (show hasC (L13.ctab ad) ad pn = true ∧ (match attrL n pn vs with
      | some v => Q v
      | none => False) from ⟨has_pc, by rw [hn]; exact q⟩)
theorem ev_ati (h : ρ[i]? = some (some (.iref ad pn a))) (ha : H a = some (.inst ad pn vs)) (hn : attrL n pn vs = some w) : Ev (C3 ad d) ⟨ρ, H, B⟩ (.attr (.var i) n) w := fun Q X q => ev_var (C := C3 ad d) (H := H) (B := B) h _ X (show (match H a with
      | some (.inst c' ns' vs) => hasC (L13.ctab ad) ad pn = true ∧ c' = ad ∧ ns' = pn ∧ (match attrL n pn vs with
        | some v => Q v
        | none => False)
      | _ => False) from by rw [ha]; exact ⟨has_pc, rfl, rfl, by rw [hn]; exact q⟩)
theorem w_seta {e : E} (hv : Ev (C3 ad d) ⟨ρ, H, B⟩ e w) (hi : ρ[i]? = some (some (.iref ad pn a))) (hB : B a = none) (ha : H a = some (.inst ad pn vs)) (hs : setAttrL n w pn vs = some vs') (hb : WB (C3 ad d) b ⟨ρ, H.upd a (.inst ad pn vs'), B⟩ Q X) : WB (C3 ad d) (.cons (.setattr (.var i) n e) b) ⟨ρ, H, B⟩ Q X :=
  hv _ _ (ev_var (C := C3 ad d) (H := H) (B := B) hi _ (fun x => X x ⟨ρ, H, B⟩) (show B a = none ∧ (match H a with
      | some (.inst c ns vs) => hasC (L13.ctab ad) c ns = true ∧ c = ad ∧ ns = pn ∧ (match setAttrL n w ns vs with
        | some vs' => WB (C3 ad d) b ⟨ρ, H.upd a (.inst c ns vs'), B⟩ Q X
        | none => False)
      | _ => False) from ⟨hB, by
        rw [ha]
        refine ⟨has_pc, rfl, rfl, ?_⟩
        show (match setAttrL n w pn vs with
        | some vs' => _
        | none => False)
        rw [hs]; exact hb⟩))
theorem w_new {e1 e2 e3 : E} {sz : Int} {h t : List Nat} (h1 : Ev (C3 ad d) ⟨ρ, H, B⟩ e1 (.int sz)) (h2 : Ev (C3 ad d) ⟨ρ, H, B⟩ e2 (lst h)) (h3 : Ev (C3 ad d) ⟨ρ, H, B⟩ e3 (lst t)) (hi : Nat.blt i ρ.length = true) (hb : ∀ a, H a = none → B a = none → WB (C3 ad d) b ⟨ρ.set i (some (.iref ad pn a)), H.upd a (.inst ad pn (pcL sz h t 0 .none)), B⟩ Q X) :
    WB (C3 ad d) (.cons (.own i (.new "Piece" (.cons e1 (.cons e2 (.cons e3 .nil))))) b) ⟨ρ, H, B⟩ Q X := h1 _ _ (h2 _ _ (h3 _ _ ⟨rfl, fun a hf => by
  show (match (match putV i (.iref ad pn a) ρ with
    | some ρ' => _
    | none => False) with
    | p => p)
  unfold putV; rw [if_pos (Nat.blt_eq.mp hi)]; exact hb a hf.1 hf.2⟩))
end
/-! texts -/
theorem eqV_lst {H : AH} {a b : List Nat} {Q : Bool → Prop} : eqV H (lst a) (lst b) Q = Q (decide (a = b)) := by
  unfold lst
  rw [eqV_str]
  congr 1
  rw [decide_eq_decide]
  exact ⟨fun e => congrArg (fun s : Str => s.cps.toList) e, fun e => by rw [e]⟩
theorem clip_nat {n k : Nat} : clip n (k : Int) = min k n := by
  unfold clip; rw [if_neg (Int.not_lt.mpr (Int.natCast_nonneg k))]
  rcases Nat.le_total k n with h | h
  · rw [Int.min_eq_left (Int.ofNat_le.mpr h), Int.max_eq_right (Int.natCast_nonneg k), Nat.min_eq_left h]; rfl
  · rw [Int.min_eq_right (Int.ofNat_le.mpr h), Int.max_eq_right (Int.natCast_nonneg n), Nat.min_eq_right h]; rfl
section
variable {C : Cx} {st : St} {e e' e'' : E} {x y l : List Nat} {m k n : Nat}
theorem ev_addN (ha : Ev C st e (.int n)) (hb : Ev C st e' (.int k)) : Ev C st (.bin .add e e') (.int ((n + k : Nat) : Int)) := ev_add ha hb
theorem ev_eqT (ha : Ev C st e (lst x)) (hb : Ev C st e' (lst y)) : Ev C st (.cmp e (.one .eq e')) (.bool (decide (x = y))) := ev_cmp ha (ec_one hb fun Q q => (show eqV st.H (lst x) (lst y) Q from by rw [eqV_lst]; exact q))
theorem ev_lenT (h : Ev C st e (lst x)) : Ev C st (.len e) (.int x.length) := ev_len h rfl
theorem cat_lst : (⟨x.toArray⟩ ++ ⟨y.toArray⟩ : Str) = ⟨(x ++ y).toArray⟩ := by apply Str.ext'; simp [Str.cps_append]
theorem ev_catT (ha : Ev C st e (lst x)) (hb : Ev C st e' (lst y)) (h : x.length + y.length ≤ 5000) : Ev C st (.bin .add e e') (lst (x ++ y)) := by
  have := ev_cat ha hb (Nat.le_of_lt (sl h))
  rwa [cat_lst] at this
theorem ev_hdT (he : Ev C st e (lst l)) (hm : Ev C st e' (.int m)) : Ev C st (.slice e .none e') (lst (l.take m)) := by
  have h : cutL l 0 (clip l.length (m : Int)) = l.take m := by
    rw [clip_nat, cutL, List.drop_zero, Nat.sub_zero]
    rcases Nat.le_total m l.length with q | q
    · rw [Nat.min_eq_left q]
    · rw [Nat.min_eq_right q, List.take_of_length_le (Nat.le_refl _), List.take_of_length_le q]
  exact h ▸ (fun Q X q => he _ _ (hm _ _ q) : Ev C st (.slice e .none e') (lst (cutL l 0 (clip l.length (m : Int)))))
theorem ev_slT (he : Ev C st e (lst l)) (hi : Ev C st e' (.int k)) (hj : Ev C st e'' (.int (k + n : Nat))) (hk : k ≤ l.length) : Ev C st (.slice e e' e'') (lst ((l.drop k).take n)) := by
  have h : cutL l (clip l.length (k : Int)) (clip l.length ((k + n : Nat) : Int)) = (l.drop k).take n := by
    rw [clip_nat, clip_nat, cutL, Nat.min_eq_left hk]
    rcases Nat.le_total (k + n) l.length with q | q
    · rw [Nat.min_eq_left q, Nat.add_sub_cancel_left]
    · rw [Nat.min_eq_right q, List.take_of_length_le (Nat.le_of_eq (List.length_drop ..)), List.take_of_length_le (by rw [List.length_drop]; omega)]
  exact h ▸ (fun Q X q => he _ _ (hi _ _ (hj _ _ q)) : Ev C st (.slice e e' e'') (lst (cutL l (clip l.length (k : Int)) (clip l.length ((k + n : Nat) : Int)))))
theorem ev_tlT (he : Ev C st e (lst l)) (hi : Ev C st e' (.int (max 0 ((l.length : Int) - m)))) : Ev C st (.slice e e' .none) (lst (l.drop (l.length - m))) := by
  have h : cutL l (clip l.length (max 0 ((l.length : Int) - m))) l.length = l.drop (l.length - m) := by
    rw [show max 0 ((l.length : Int) - m) = ((l.length - m : Nat) : Int) by omega, clip_nat, Nat.min_eq_left (Nat.sub_le ..), cutL, List.take_of_length_le (Nat.le_of_eq (List.length_drop ..))]
  exact h ▸ (fun Q X q => he _ _ (hi _ _ q) : Ev C st (.slice e e' .none) (lst (cutL l (clip l.length (max 0 ((l.length : Int) - m))) l.length)))
end
section
variable {ad d : Nat} {H : AH} {W : List Nat} {m : Nat}
/-! crossing -/
noncomputable def crB : Bl := .cons (.ite (.cmp (.slice (.var 3) (.var 5) (.bin .add (.var 5) (.len (.var 2)))) (.one .eq (.var 2))) (.cons (.append (.var 4) (.pure (.bin .add (.bin .sub (.attr (.var 0) "size") (.len (.attr (.var 0) "tail"))) (.var 5)))) .nil) .nil) .nil
noncomputable def iv (l : List Nat) : List V := l.map fun (k : Nat) => V.int k
theorem iv_app {a b : List Nat} : iv (a ++ b) = iv a ++ iv b := List.map_append ..
noncomputable def crA (W nr : List Nat) (p k : Nat) : List Nat := ((List.range k).filter (at? W nr)).map (p + ·)
theorem crA_succ {nr : List Nat} {p k : Nat} : crA W nr p (k + 1) = crA W nr p k ++ if at? W nr k then [p + k] else [] := by
  unfold crA
  rw [List.range_succ, List.filter_append, List.map_append]
  congr 1
  cases e : at? W nr k with
  | true => rw [List.filter_cons_of_pos e, if_pos rfl]; rfl
  | false => rw [List.filter_cons_of_neg (by rw [e]; exact Bool.false_ne_true), if_neg Bool.false_ne_true]; rfl
theorem crA_len {nr : List Nat} {p k : Nat} : (iv (crA W nr p k)).length ≤ k := by
  unfold iv crA
  rw [List.length_map, List.length_map]
  exact Nat.le_trans (List.length_filter_le ..) (Nat.le_of_eq List.length_range)
theorem fz_iv {n : Nat} {l : List Nat} {H' : AH} : ∀ v ∈ iv l, frz H' H (n + 1) v = some v := fun v hv => by obtain ⟨s, _, rfl⟩ := List.mem_map.mp hv; rfl
theorem cr_loop {Q : V → Prop} {X : String → St → Prop} {a p : Nat} {h1 t1 : List Nat} {tm : Int} {fi v1 : V} {nr : List Nat} (hB : H a = none) (hn : t1.length ≤ nr.length) (hl : t1.length ≤ 200) (q : Q (.lst (iv (crA W nr p t1.length)))) : ∀ (m k : Nat) (x5 : Option V) (H' : AH), k + m = t1.length → H' a = some (.list (iv (crA W nr p k))) →
    Fo (C3 ad d) (.var 5) crB (.cons (.ret (.var 4)) .nil) (PK H Q) X (upL k t1.length) ⟨[some (.inst ad pn (pcL (p + t1.length : Nat) h1 t1 tm fi)), some v1, some (lst W), some (lst nr), some (.ref a), x5], H', H⟩
  | 0, k, x5, H', e, ha => by
    rw [upL_nil (by omega)]
    have e : k = t1.length := e
    subst e
    exact fo_nil (r1 (ev_var rfl) (frz_ref hB ha fz_iv) q)
  | m + 1, k, x5, H', e, ha => by
    rw [upL_cons (by omega)]
    have hk : k < t1.length := by omega
    have ih := cr_loop (X := X) (h1 := h1) (tm := tm) (fi := fi) (v1 := v1) hB hn hl q m (k + 1) (some (.int k))
    rw [crA_succ] at ih
    refine fo_cons (ρ' := [some (.inst ad pn (pcL (p + t1.length : Nat) h1 t1 tm fi)), some v1, some (lst W), some (lst nr), some (.ref a), some (.int k)]) rfl (w_if (at? W nr k) (ev_eqT (ev_slT (n := W.length) (fun _ _ q => q) (fun _ _ q => q) (fun _ _ q => q) (by omega)) (ev_var rfl)) (fun ee => ?_) fun ee => kn_nil (kf_nil (ih _ (by omega) (by rw [ee, if_neg Bool.false_ne_true, List.append_nil]; exact ha))))
    exact w_app (w := .int ((p + k : Nat) : Int)) rfl ha hB ((show ((p + t1.length : Nat) : Int) - (t1.length : Int) + k = ((p + k : Nat) : Int) by omega) ▸ ev_add (ev_sb (ev_at rfl rfl) (ev_lenT (ev_at rfl rfl))) (ev_var rfl)) (sl (Nat.le_trans crA_len (by omega))) (kn_nil (kf_nil (ih _ (by omega) (by rw [ee, if_pos rfl, iv_app]; exact upd_eq))))
theorem ca_cross {a b : List Nat} (hm : m ≤ 200) : Ca (C3 ad (d + 1)) "crossing" [pcV ad W m a, pcV ad W m b, lst W] H (.lst (iv (cross W m a b))) := ca_of (fn := L13.F_crossing) rfl rfl (by decide) fun Q X q => by
  have h1 : (tl m a).length ≤ m := by rw [tl_len]; exact Nat.min_le_left ..
  have h3 : (tl m a).length ≤ a.length := by rw [tl_len]; exact Nat.min_le_right ..
  have h2 : (b.take m).length ≤ m := List.length_take_le ..
  have hl := fun {v1 : V} r h2 => cr_loop (ad := ad) (d := d) (H := H) (X := fun x _ => X x) (a := r) (p := a.length - (tl m a).length) (h1 := a.take m) (tm := (occs W a).length) (fi := fV (occs W a).head?) (v1 := v1) (nr := near m a b) h2 (by rw [near, List.length_append]; omega) (by omega) q (tl m a).length 0 none (H.upd r (.list [])) (Nat.zero_add _) upd_eq
  rw [Nat.sub_add_cancel h3] at hl
  exact w_asg (w := lst (near m a b)) (ev_catT (ev_at rfl rfl) (ev_at rfl rfl) (by omega)) rfl (w_own0 rfl fun r h1 h2 => w_for (xs := upL 0 (tl m a).length) (ds := []) (ei_range1 (ev_lenT (ev_at rfl rfl)) ⟨by omega, by omega⟩) (.inr nofun) (hl r h2))
/-! two pieces put together -/
section
variable {Q : V → Prop} {X : String → St → Prop} {r n : Nat} {H' : AH} {A1 A2 B1 B2 hd tt : List Nat} {na nb sb sz tm : Int} {fa : V} {x2 x3 x4 x5 x7 x8 : Option V} {oa ob fo : Option Nat} {xs : List Nat}
noncomputable def tw3 : Bl := .cons (.ite (.and (.cmp (.attr (.var 6) "first") (.one .is .none)) (.cmp (.attr (.var 1) "first") (.one .isnot .none))) (.cons (.setattr (.var 6) "first" (.bin .add (.attr (.var 0) "size") (.attr (.var 1) "first"))) .nil) .nil) (.cons (.ret (.var 6)) .nil)
theorem tw_3 (hB : H r = none) (ha : H' r = some (.inst ad pn (pcL sz hd tt tm (fV fo)))) (q : Q (.inst ad pn (pcL sz hd tt tm (fV (fo.or (ob.map (n + ·))))))) : WB (C3 ad d) tw3 ⟨[some (.inst ad pn (pcL n A1 A2 na fa)), some (.inst ad pn (pcL sb B1 B2 nb (fV ob))), x2, x3, x4, x5, some (.iref ad pn r), x7, x8], H', H⟩ (PK H Q) X := by
  cases fo with
  | some k => exact w_iff (ev_and (p := false) (q := true) (ev_cmp (ev_ati rfl ha rfl) (ec_one ev_none cm_is)) nofun) (kn_nil (r1 (ev_var rfl) (fz_iref hB ha) q))
  | none =>
    cases ob with
    | none => exact w_iff (ev_and (p := true) (q := false) (ev_cmp (ev_ati rfl ha rfl) (ec_one ev_none cm_is)) fun _ => ev_cmp (ev_at rfl rfl) (ec_one ev_none cm_isnot)) (kn_nil (r1 (ev_var rfl) (fz_iref hB ha) q))
    | some j => exact w_ift (ev_and (p := true) (q := true) (ev_cmp (ev_ati rfl ha rfl) (ec_one ev_none cm_is)) fun _ => ev_cmp (ev_at rfl rfl) (ec_one ev_none cm_isnot)) (w_seta (w := .int ((n + j : Nat) : Int)) (ev_addN (n := n) (k := j) (ev_at rfl rfl) (ev_at rfl rfl)) rfl hB ha rfl (kn_nil (r1 (ev_var rfl) (fz_iref (o := some (n + j)) hB upd_eq) q)))
noncomputable def tw2 : Bl := .cons (.setattr (.var 6) "first" (.attr (.var 0) "first")) (.cons (.ite (.and (.cmp (.attr (.var 6) "first") (.one .is .none)) (.cmp (.len (.var 7)) (.one .gt (.int 0)))) (.cons (.setattr (.var 6) "first" (.sub (.var 7) (.int 0))) .nil) .nil) tw3)
theorem tw_2 (hB : H r = none) (ha : H' r = some (.inst ad pn (pcL sz hd tt tm fa))) (q : Q (.inst ad pn (pcL sz hd tt tm (fV ((oa.or xs.head?).or (ob.map (n + ·))))))) : WB (C3 ad d) tw2 ⟨[some (.inst ad pn (pcL n A1 A2 na (fV oa))), some (.inst ad pn (pcL sb B1 B2 nb (fV ob))), x2, x3, x4, x5, some (.iref ad pn r), some (.lst (iv xs)), x8], H', H⟩ (PK H Q) X := by
  refine w_seta (w := fV oa) (ev_at rfl rfl) rfl hB ha rfl ?_
  cases oa with
  | some k => exact w_iff (ev_and (p := false) (q := true) (ev_cmp (ev_ati rfl upd_eq rfl) (ec_one ev_none cm_is)) nofun) (kn_nil (tw_3 (fo := some k) hB upd_eq q))
  | none =>
    cases xs with
    | nil => exact w_iff (ev_and (p := true) (q := false) (ev_cmp (ev_ati rfl upd_eq rfl) (ec_one ev_none cm_is)) fun _ => ev_cmp (ev_len (n := 0) (ev_var rfl) rfl) (ec_one ev_int cm_gt)) (kn_nil (tw_3 (fo := none) hB upd_eq q))
    | cons k xs => exact w_ift (ev_and (p := true) (q := true) (ev_cmp (ev_ati rfl upd_eq rfl) (ec_one ev_none cm_is)) fun _ => (show decide ((((iv (k :: xs)).length : Nat) : Int) > 0) = true from decide_eq_true (Int.natCast_pos.mpr (Nat.succ_pos _))) ▸ ev_cmp (ev_len (ev_var rfl) rfl) (ec_one ev_int cm_gt)) (w_seta (w := .int k) (ev_sub (ev_var rfl) ev_int (sb_lst (n := 0) rfl)) rfl hB upd_eq rfl (kn_nil (tw_3 (fo := some k) hB upd_eq q)))
end
theorem first_two (hm : W.length = m + 1) (a b : List Nat) : (occs W (a ++ b)).head? = ((occs W a).head?.or (cross W m a b).head?).or ((occs W b).head?.map (a.length + ·)) := by
  rw [occs_append hm, List.head?_append, List.head?_append, List.head?_map]
theorem len_two (hm : W.length = m + 1) (a b : List Nat) : (((occs W a).length : Int) + (iv (cross W m a b)).length + (occs W b).length) = ((occs W (a ++ b)).length : Nat) := by
  rw [occs_append hm, List.length_append, List.length_append, List.length_map, iv, List.length_map]; rfl
noncomputable def tw1 : Bl := .cons (.own 6 (.new "Piece" (.cons (.bin .add (.attr (.var 0) "size") (.attr (.var 1) "size")) (.cons (.var 4) (.cons (.var 5) .nil))))) (.cons (.assign (.var 7) (.call "crossing" (.cons (.var 0) (.cons (.var 1) (.cons (.var 2) .nil))))) (.cons (.setattr (.var 6) "times" (.bin .add (.bin .add (.attr (.var 0) "times") (.len (.var 7))) (.attr (.var 1) "times"))) tw2))
section
variable {Q : V → Prop} {X : String → St → Prop} {a b : List Nat} {x8 : Option V}
theorem tw_1 (hm : W.length = m + 1) (h2 : m ≤ 199) (q : Q (pcV ad W m (a ++ b))) : WB (C3 ad (d + 1)) tw1 ⟨[some (pcV ad W m a), some (pcV ad W m b), some (lst W), some (.int m), some (lst ((a ++ b).take m)), some (lst (tl m (a ++ b))), none, none, x8], H, H⟩ (PK H Q) X := by
  refine w_new (sz := (a.length + b.length : Nat)) (ev_addN (n := a.length) (k := b.length) (ev_at rfl rfl) (ev_at rfl rfl)) (ev_var rfl) (ev_var rfl) rfl fun r r1 r2 => w_asg (w := .lst (iv (cross W m a b))) (fun _ _ q => ca_cross (by omega) _ _ q) rfl (w_seta (w := .int ((occs W (a ++ b)).length : Nat)) (len_two hm a b ▸ ev_add (ev_add (ev_at rfl rfl) (ev_len (ev_var rfl) rfl)) (ev_at rfl rfl)) rfl r2 upd_eq rfl (tw_2 r2 upd_eq ?_))
  rw [← first_two hm, ← List.length_append]; exact q
noncomputable def tw0 : Bl := .cons (.assign (.var 5) (.attr (.var 1) "tail")) (.cons (.ite (.cmp (.attr (.var 1) "size") (.one .lt (.var 3))) (.cons (.assign (.var 8) (.bin .add (.attr (.var 0) "tail") (.attr (.var 1) "tail"))) (.cons (.assign (.var 5) (.slice (.var 8) (.max2 (.int 0) (.bin .sub (.len (.var 8)) (.var 3))) .none)) .nil)) .nil) tw1)
theorem tw_0 (hm : W.length = m + 1) (h2 : m ≤ 199) (q : Q (pcV ad W m (a ++ b))) : WB (C3 ad (d + 1)) tw0 ⟨[some (pcV ad W m a), some (pcV ad W m b), some (lst W), some (.int m), some (lst ((a ++ b).take m)), none, none, none, none], H, H⟩ (PK H Q) X := by
  have ha : (tl m a).length ≤ m := by rw [tl_len]; exact Nat.min_le_left ..
  have hb : (tl m b).length ≤ m := by rw [tl_len]; exact Nat.min_le_left ..
  refine w_asg (w := lst (tl m b)) (ev_at rfl rfl) rfl (w_if (decide ((b.length : Int) < m)) (ev_cmp (ev_at rfl rfl) (ec_one (ev_var rfl) cm_lt)) (fun e => ?_) fun e => ?_)
  · have hlt := Int.ofNat_lt.mp (of_decide_eq_true e)
    refine w_asg (w := lst (tl m a ++ tl m b)) (ev_catT (ev_at rfl rfl) (ev_at rfl rfl) (by omega)) rfl (w_asg (ev_tlT (l := tl m a ++ tl m b) (m := m) (ev_var rfl) (ev_max2 ev_int (ev_sb (ev_lenT (ev_var rfl)) (ev_var rfl)))) rfl (kn_nil ?_))
    rw [tail_short hlt]
    exact tw_1 hm h2 q
  · have hge := of_decide_eq_false e
    have t := tail_long (m := m) (a := a) (b := b) (by omega)
    have h := tw_1 (ad := ad) (d := d) (H := H) (Q := Q) (X := X) (x8 := none) hm h2 q
    rw [t] at h
    exact kn_nil h
theorem ca_two (hm : W.length = m + 1) (h2 : m ≤ 199) : Ca (C3 ad (d + 2)) "two" [pcV ad W m a, pcV ad W m b, lst W] H (pcV ad W m (a ++ b)) := ca_of (fn := L13.F_two) rfl rfl (by decide) fun Q X q => by
  have ha : (a.take m).length ≤ m := List.length_take_le ..
  have hb : (b.take m).length ≤ m := List.length_take_le ..
  have h := tw_0 (ad := ad) (d := d) (H := H) (X := fun x _ => X x) hm h2 q
  refine w_asg (w := .int m) ((show ((W.length : Int) - 1) = m by omega) ▸ ev_sb (ev_lenT (ev_var rfl)) ev_int) rfl (w_asg (w := lst ((a.take m ++ b.take m).take m)) (ev_hdT (ev_catT (ev_at rfl rfl) (ev_at rfl rfl) (by omega)) (ev_var rfl)) rfl (w_if (decide ((a.length : Int) ≥ m)) (ev_cmp (ev_at rfl rfl) (ec_one (ev_var rfl) cm_ge)) (fun e => ?_) fun e => ?_))
  · have hge := of_decide_eq_true e
    rw [head_long (b := b) (show m ≤ a.length by omega)] at h
    exact w_asg (w := lst (a.take m)) (ev_at rfl rfl) rfl (kn_nil h)
  · have hlt := of_decide_eq_false e
    rw [← head_short (b := b) (show a.length < m by omega)] at h
    exact kn_nil h
end
theorem ca_pof (hm : W.length = m + 1) (c : Nat) : Ca (C3 ad (d + 1)) "piece_of" [lst [c], lst W] H (pcV ad W m [c]) := ca_of (fn := L13.F_piece_of) rfl rfl (by decide) fun Q X q => by
  unfold pcV at q
  rw [occs_one (by omega), tl_one] at q
  have e1 := ev_hdT (C := C3 ad d) (st := ⟨[some (lst [c]), some (lst W), some (.int m), none], H, H⟩) (e := .var 0) (e' := .var 2) (l := [c]) (m := m) (fun _ _ q => q) (fun _ _ q => q)
  refine w_asg (w := .int m) ((show ((W.length : Int) - 1) = m by omega) ▸ ev_sb (ev_lenT (ev_var rfl)) ev_int) rfl (w_new (sz := 1) ev_int e1 e1 rfl fun r h1 h2 => w_if (decide ([c] = W)) (ev_eqT (ev_var rfl) (ev_var rfl)) (fun e => ?_) fun e => ?_)
  · rw [if_pos (of_decide_eq_true e).symm] at q
    exact w_seta (w := .int 1) ev_int rfl h2 upd_eq rfl (w_seta (w := .int 0) ev_int rfl h2 upd_eq rfl (kn_nil (r1 (ev_var rfl) (fz_iref (o := some 0) (sz := 1) (h := [c].take m) (t := [c].take m) (tm := 1) h2 upd_eq) q)))
  · rw [if_neg (Ne.symm (of_decide_eq_false e))] at q
    exact kn_nil (r1 (ev_var rfl) (fz_iref (o := none) h2 upd_eq) q)
end
end Lib
end

section
set_option autoImplicit false
set_option linter.unusedSimpArgs false
set_option linter.unusedVariables false
namespace Lib
open PySem Mine
section
variable {ad d : Nat} {H : AH} {W : List Nat} {m : Nat} {rs : List Rl} {row : List Sy}
theorem tx_at {ts : List (List Nat)} {k : Nat} (h : k < ts.length) : ts[k]? = some (tx ts (.ru k)) := by simp [tx, List.getD, List.getElem?_eq_getElem h]
theorem ca_pby {s : Sy} {u : V} {ts : List (List Nat)} (hm : W.length = m + 1) (hu : seqL H u = some (ts.map (pcV ad W m))) (hs : s.ok ts.length) : Ca (C3 ad (d + 2)) "piece_by" [s.v, u, lst W] H (pcV ad W m (tx ts s)) := ca_of (fn := L13.F_piece_by) rfl rfl (by decide) fun Q X q => by
  cases s with
  | ch c => exact ca_pof hm c _ _ (pk_of fz_pc q)
  | ru k => exact Sb.of (H := H) hu (k := k) (by rw [List.getElem?_map, tx_at hs]; rfl) _ (pk_of fz_pc q)
noncomputable def whB1 : Bl := .cons (.append (.var 2) (.pure (.call "two" (.cons (.call "piece_by" (.cons (.sub (.var 3) (.int 0)) (.cons (.var 2) (.cons (.var 1) .nil)))) (.cons (.call "piece_by" (.cons (.sub (.var 3) (.int 1)) (.cons (.var 2) (.cons (.var 1) .nil)))) (.cons (.var 1) .nil)))))) .nil
theorem wh_1 {Q : Fl → St → Prop} {X : String → St → Prop} {r : Bl} {a : Nat} {bk : V} (hm : W.length = m + 1) (h2 : m ≤ 199) (hr : RulesOk rs) (hn : rs.length ≤ 600) (hB : H a = none) (h : ∀ x H', H' a = some (.list ((Tx rs).map (pcV ad W m))) → WB (C3 ad (d + 2)) r ⟨[some bk, some (lst W), some (.ref a), x, none, none], H', H⟩ Q X) : ∀ (rr pre : List Rl) (x : Option V) (H' : AH), pre ++ rr = rs → H' a = some (.list ((Tx pre).map (pcV ad W m))) →
    Fo (C3 ad (d + 2)) (.var 3) whB1 r Q X (rr.map pv) ⟨[some bk, some (lst W), some (.ref a), x, none, none], H', H⟩
  | [], pre, x, H', e, ha => fo_nil (h x H' (cat0 e ▸ ha))
  | p :: rr, pre, x, H', e, ha => by
    have o := okT hr e
    have hl := pre_le e
    refine fo_cons (ρ' := [some bk, some (lst W), some (.ref a), some (pv p), none, none]) rfl (w_app (w := pcV ad W m (tx (Tx pre) p.1 ++ tx (Tx pre) p.2)) rfl ha hB (fun _ _ q => ca_pby hm (seq_ref ha) o.1 _ _ (ca_pby hm (seq_ref ha) o.2 _ _ (ca_two hm h2 _ _ q))) (sl (by rw [List.length_map, Tx_length]; omega)) (kf_nil (wh_1 hm h2 hr hn hB h rr (pre ++ [p]) _ _ (cat1 e) ?_)))
    rw [Tx_snoc, List.map_append]; exact upd_eq
noncomputable def whB2 : Bl := .cons (.assign (.var 4) (.call "two" (.cons (.var 4) (.cons (.call "piece_by" (.cons (.var 5) (.cons (.var 2) (.cons (.var 1) .nil)))) (.cons (.var 1) .nil))))) .nil
theorem bt_one {rs : List Rl} {s : Sy} : bt rs [s] = tx (Tx rs) s := List.append_nil _
theorem wh_2 {Q : V → Prop} {X : String → St → Prop} {a : Nat} {bk : V} {x3 : Option V} {H' : AH} (hm : W.length = m + 1) (h2 : m ≤ 199) (hw : RowOk rs.length row) (ha : H' a = some (.list ((Tx rs).map (pcV ad W m)))) (q : Q (pcV ad W m (bt rs row))) : ∀ (rr pre : List Sy) (x : Option V), pre ++ rr = row →
    Fo (C3 ad (d + 2)) (.var 5) whB2 (.cons (.ret (.var 4)) .nil) (PK H Q) X (rr.map Sy.v) ⟨[some bk, some (lst W), some (.ref a), x3, some (pcV ad W m (bt rs pre)), x], H', H⟩
  | [], pre, x, e => fo_nil (r1 (ev_var rfl) fz_pc (cat0 e ▸ q))
  | s :: rr, pre, x, e => by
    have os : s.ok (Tx rs).length := by rw [Tx_length]; exact hw s (List.mem_of_getElem? (at_pre e))
    have ih := wh_2 (X := X) (bk := bk) (x3 := x3) hm h2 hw ha q rr (pre ++ [s]) (some s.v) (cat1 e)
    rw [bt_append, bt_one] at ih
    exact fo_cons (ρ' := [some bk, some (lst W), some (.ref a), x3, some (pcV ad W m (bt rs pre)), some s.v]) rfl (w_asg (w := pcV ad W m (bt rs pre ++ tx (Tx rs) s)) (fun _ _ q => ca_pby hm (seq_ref ha) os _ _ (ca_two hm h2 _ _ q)) rfl (kf_nil ih))
noncomputable def whT : E := .or (.not (.call "is_text" (.cons (.var 1) .nil))) (.not (.cmp (.int 1) (.more .le (.len (.var 1)) (.one .le (.glob "MOST_WORD")))))
theorem ca_whole (h : Bk rs row) (hS : ∀ c ∈ W, c ∈ SG) (hm : W.length = m + 1) (h2 : m ≤ 199) : Ca (C3 ad (d + 5)) "whole" [bookV rs row, lst W] H (pcV ad W m (bt rs row)) := ca_of (fn := L13.F_whole) rfl rfl (by decide) fun Q X q => by
  have g1 : decide ((1 : Int) ≤ W.length) = true := decide_eq_true (by omega)
  have g2 : decide ((W.length : Int) ≤ 200) = true := decide_eq_true (by omega)
  have e0 : pcV ad W m (bt rs []) = .inst ad pn (pcL 0 [] [] 0 .none) := by
    show V.inst ad pn (pcL 0 (List.take m []) (tl m []) _ _) = _
    rw [List.take_nil, show tl m [] = [] from List.drop_nil]; rfl
  refine w_exp (w := bookV rs row) (fun _ _ q => ca_need h _ _ q) (w_iff (t := whT) (ev_or (p := false) (q := false) (fun _ _ q => tx_ok hS _ _ q) fun _ => ev_not (b := true) (ev_cmp ev_int (ec_more (p := true) (q := true) (ev_lenT (ev_var rfl)) (g1 ▸ cm_le) fun _ => ec_one (ev_glob (v := .int 200) rfl) (g2 ▸ cm_le)))) (kn_nil (w_own0 rfl fun a h1 h3 => w_for (xs := rs.map pv) (ds := []) (fun _ _ q => q) (.inr nofun) (wh_1 (d := d + 2) hm h2 h.r h.n h3 (fun x H' ha => ?_) rs [] none _ rfl upd_eq))))
  exact w_asg (w := .inst ad pn (pcL 0 [] [] 0 .none)) (fun _ _ q => ⟨rfl, q⟩) rfl (w_for (xs := row.map Sy.v) (ds := []) (fun _ _ q => q) (.inr nofun) (e0 ▸ wh_2 (d := d + 2) hm h2 h.w ha q row [] _ rfl))
theorem ca_how (h : Bk rs row) (hS : ∀ c ∈ W, c ∈ SG) (hm : W.length = m + 1) (h2 : m ≤ 199) : Ca (C3 ad (d + 6)) "how_often" [bookV rs row, lst W] H (.int (occs W (bt rs row)).length) := ca_of (fn := L13.F_how_often) rfl rfl (by decide) fun Q X q => ca_whole h hS hm h2 _ _ ⟨has_pc, q⟩
theorem ca_first (h : Bk rs row) (hS : ∀ c ∈ W, c ∈ SG) (hm : W.length = m + 1) (h2 : m ≤ 199) : Ca (C3 ad (d + 6)) "first_place" [bookV rs row, lst W] H (fV (occs W (bt rs row)).head?) := ca_of (fn := L13.F_first_place) rfl rfl (by decide) fun Q X q => ca_whole h hS hm h2 _ _ ⟨has_pc, pk_of (fz_fV _) q⟩
/-! the law's own count of a word of two signs -/
noncomputable def knV (W t : List Nat) : V := .tup [.int (occs W t).length, fV (occs W t).head?, .int t.length, lst (t.take 1), lst (tl 1 t)]
theorem fz_kn {H' : AH} {n : Nat} {W t : List Nat} : frz H' H (n + 2) (knV W t) = some (knV W t) := by
  unfold knV
  cases (occs W t).head? <;> rfl
section
variable {Q : V → Prop} {X : String → St → Prop} {n nb : Nat} {v0 v1 v2 v3 : V} {i : Int} {h1 h2 t1 t2 : List Nat} {fa : V} {oa ob fo : Option Nat} {w : List Nat}
noncomputable def lb2 : Bl := .cons (.ite (.and (.cmp (.var 4) (.one .is .none)) (.cmp (.sub (.var 1) (.int 1)) (.one .isnot .none))) (.cons (.assign (.var 4) (.bin .add (.sub (.var 0) (.int 2)) (.sub (.var 1) (.int 1)))) .nil) .nil) (.cons (.ret (.tup (.cons (.var 3) (.cons (.var 4) (.cons (.bin .add (.sub (.var 0) (.int 2)) (.sub (.var 1) (.int 2))) (.cons (.sub (.var 0) (.int 3)) (.cons (.sub (.var 1) (.int 4)) .nil))))))) .nil)
theorem le5 {a b c e f : V} : [a, b, c, e, f].length ≤ sizeLine := Nat.le_of_ble_eq_true rfl
theorem lb_r (o : Option Nat) (q : Q (.tup [.int i, fV o, .int (n + nb : Nat), lst h1, lst t2])) : WB (C3 ad d) (.cons (.ret (.tup (.cons (.var 3) (.cons (.var 4) (.cons (.bin .add (.sub (.var 0) (.int 2)) (.sub (.var 1) (.int 2))) (.cons (.sub (.var 0) (.int 3)) (.cons (.sub (.var 1) (.int 4)) .nil))))))) .nil) ⟨[some (.tup [v0, fa, .int n, lst h1, lst t1]), some (.tup [v1, fV ob, .int nb, lst h2, lst t2]), some v2, some (.int i), some (fV o)], H, H⟩ (PK H Q) X := r1 (w := .tup [.int i, fV o, .int (n + nb : Nat), lst h1, lst t2]) (fun _ _ q => ⟨le5, q⟩) (by cases o <;> rfl) q
theorem lb_2 (q : Q (.tup [.int i, fV (fo.or (ob.map (n + ·))), .int (n + nb : Nat), lst h1, lst t2])) : WB (C3 ad d) lb2 ⟨[some (.tup [v0, fa, .int n, lst h1, lst t1]), some (.tup [v1, fV ob, .int nb, lst h2, lst t2]), some v2, some (.int i), some (fV fo)], H, H⟩ (PK H Q) X := by
  cases fo with
  | some k => exact w_iff (fun _ _ q => q) (kn_nil (lb_r (some k) q))
  | none =>
    cases ob with
    | none => exact w_iff (fun _ _ q => q) (kn_nil (lb_r (ob := none) none q))
    | some j => exact w_ift (fun _ _ q => q) (w_asg (w := .int (n + j : Nat)) (fun _ _ q => q) rfl (kn_nil (lb_r (ob := some j) (some (n + j)) q)))
end
theorem cross2 {a b : List Nat} (hW : W.length = 2) (ha : 1 ≤ a.length) : cross W 1 a b = if near 1 a b = W then [a.length - 1] else [] := by
  have h1 : (tl 1 a).length = 1 := by rw [tl_len]; omega
  have h2 : at? W (near 1 a b) 0 = decide (near 1 a b = W) := by
    unfold at?
    rw [List.drop_zero, List.take_of_length_le]
    rw [hW, near, List.length_append, h1]
    have := List.length_take_le 1 b
    omega
  unfold cross
  rw [h1]
  show List.map _ (List.filter (at? W (near 1 a b)) [0]) = _
  by_cases e : near 1 a b = W
  · rw [if_pos e, List.filter_cons_of_pos (by rw [h2]; exact decide_eq_true e)]; rfl
  · rw [if_neg e, List.filter_cons_of_neg (by rw [h2]; exact fun q => e (of_decide_eq_true q))]; rfl
theorem ca_both {a b : List Nat} (hW : W.length = 2) (ha : 1 ≤ a.length) (hb : 1 ≤ b.length) : Ca (C3 ad (d + 1)) "_law_both" [knV W a, knV W b, lst W] H (knV W (a ++ b)) := ca_of (fn := L13.F_law_both) rfl rfl (by decide) fun Q X q => by
  have hc := cross2 (b := b) hW ha
  have l1 : (tl 1 a).length ≤ 1 := by rw [tl_len]; exact Nat.min_le_left ..
  have l2 : (b.take 1).length ≤ 1 := List.length_take_le ..
  have ev : ∀ {x y : Option V}, Ev (C3 ad d) ⟨[some (knV W a), some (knV W b), some (lst W), x, y], H, H⟩ (.cmp (.bin .add (.sub (.var 0) (.int 4)) (.sub (.var 1) (.int 3))) (.one .eq (.var 2))) (.bool (decide (near 1 a b = W))) := fun {x y} => ev_eqT (ev_catT (x := tl 1 a) (y := b.take 1) (fun _ _ q => q) (fun _ _ q => q) (by omega)) (fun _ _ q => q)
  unfold knV at q
  rw [first_two (m := 1) hW, occs_append (m := 1) hW, hc, List.length_append, List.length_append, List.length_map, List.length_append, head_long ha, tail_long hb] at q
  refine w_asg (ev_add (i := (occs W a).length + (occs W b).length) (fun _ _ q => q) (ev_intOf ev)) rfl (w_asg (w := fV (occs W a).head?) (fun _ _ q => q) rfl ?_)
  cases e : decide (near 1 a b = W) with
  | true =>
    rw [if_pos (of_decide_eq_true e)] at q
    rw [e] at ev
    have q : Q (.tup [.int ((occs W a).length + (occs W b).length + 1), fV (((occs W a).head?.or (some (a.length - 1))).or ((occs W b).head?.map (a.length + ·))), .int (a.length + b.length : Nat), lst (a.take 1), lst (tl 1 b)]) := by
      rw [show ((occs W a).length + (occs W b).length + 1 : Int) = (((occs W a).length + 1 + (occs W b).length : Nat) : Int) by omega]; exact q
    cases eo : (occs W a).head? with
    | some k =>
      rw [eo] at q
      unfold knV at ev ⊢
      rw [eo] at ev ⊢
      exact w_iff (ev_and (p := false) (q := true) (fun _ _ q => q) nofun) (kn_nil (lb_2 (fo := some k) q))
    | none =>
      rw [eo] at q
      unfold knV at ev ⊢
      rw [eo] at ev ⊢
      exact w_ift (ev_and (p := true) (q := true) (fun _ _ q => q) fun _ => ev) (w_asg (w := .int ((a.length - 1 : Nat) : Int)) ((show ((a.length : Int) - 1) = ((a.length - 1 : Nat) : Int) by omega) ▸ (fun _ _ q => q)) rfl (kn_nil (lb_2 (fo := some (a.length - 1)) q)))
  | false =>
    rw [if_neg (of_decide_eq_false e)] at q
    rw [e] at ev
    have q : Q (.tup [.int ((occs W a).length + (occs W b).length + 0), fV ((occs W a).head?.or ((occs W b).head?.map (a.length + ·))), .int (a.length + b.length : Nat), lst (a.take 1), lst (tl 1 b)]) := by
      rw [show ((occs W a).length + (occs W b).length + 0 : Int) = (((occs W a).length + 0 + (occs W b).length : Nat) : Int) by omega]
      rw [show (occs W a).head?.or ([] : List Nat).head? = (occs W a).head? from Option.or_none] at q; exact q
    cases eo : (occs W a).head? with
    | some k =>
      rw [eo] at q
      unfold knV at ev ⊢
      rw [eo] at ev ⊢
      exact w_iff (ev_and (p := false) (q := true) (fun _ _ q => q) nofun) (kn_nil (lb_2 (fo := some k) q))
    | none =>
      rw [eo] at q
      unfold knV at ev ⊢
      rw [eo] at ev ⊢
      exact w_iff (ev_and (p := true) (q := false) (fun _ _ q => q) fun _ => ev) (kn_nil (lb_2 (fo := none) q))
theorem occs_short {t : List Nat} (h : t.length < W.length) : occs W t = [] := filter_none fun x _ => at_short (by omega) (by omega)
theorem ca_known {s : Sy} {u : V} {ts : List (List Nat)} (hW : W.length = 2) (hu : seqL H u = some (ts.map (knV W))) (hs : s.ok ts.length) : Ca (C3 ad (d + 1)) "_law_known" [s.v, u] H (knV W (tx ts s)) := ca_of (fn := L13.F_law_known) rfl rfl (by decide) fun Q X q => by
  cases s with
  | ch c =>
    have e : knV W (tx ts (.ch c)) = .tup [.int 0, .none, .int 1, lst [c], lst [c]] := by
      show knV W [c] = _
      unfold knV
      rw [occs_short (show [c].length < W.length by rw [hW]; exact Nat.le_refl 2)]; rfl
    rw [e] at q
    exact w_ift (fun _ _ q => q) (r2 (w := .tup [.int 0, .none, .int 1, lst [c], lst [c]]) (fun _ _ q => ⟨le5, q⟩) rfl q)
  | ru k => exact Sb.of (H := H) hu (k := k) (by rw [List.getElem?_map, tx_at hs]; rfl) _ (pk_of fz_kn q)
noncomputable def lpB1 : Bl := .cons (.append (.var 3) (.pure (.call "_law_both" (.cons (.call "_law_known" (.cons (.var 6) (.cons (.var 3) .nil))) (.cons (.call "_law_known" (.cons (.var 7) (.cons (.var 3) .nil))) (.cons (.var 2) .nil)))))) .nil
noncomputable def lpB2 : Bl := .cons (.assign (.var 4) (.call "_law_both" (.cons (.var 4) (.cons (.call "_law_known" (.cons (.var 5) (.cons (.var 3) .nil))) (.cons (.var 2) .nil))))) .nil
noncomputable def lpR : Bl := .cons (.ret (.tup (.cons (.sub (.var 4) (.int 0)) (.cons (.sub (.var 4) (.int 1)) .nil)))) .nil
theorem tx_pre {pre r : List Rl} {s : Sy} (hr : RulesOk rs) (e : pre ++ r = rs) (hs : s.ok (Tx pre).length) : 1 ≤ (tx (Tx pre) s).length := by
  obtain ⟨us, h, _⟩ := Tx_append pre r
  rw [← tx_more (us := us) hs, ← h, e]
  refine tx_pos hr (hs.mono ?_)
  rw [Tx_length, ← e, List.length_append]; omega
theorem lp_1 {Q : Fl → St → Prop} {X : String → St → Prop} {r : Bl} {a : Nat} {v0 v1 : V} (hW : W.length = 2) (hr : RulesOk rs) (hn : rs.length ≤ 600) (hB : H a = none) (h : ∀ x y H', H' a = some (.list ((Tx rs).map (knV W))) → WB (C3 ad (d + 1)) r ⟨[some v0, some v1, some (lst W), some (.ref a), none, none, x, y], H', H⟩ Q X) : ∀ (rr pre : List Rl) (x y : Option V) (H' : AH), pre ++ rr = rs → H' a = some (.list ((Tx pre).map (knV W))) →
    Fo (C3 ad (d + 1)) (.tup [6, 7]) lpB1 r Q X (rr.map pv) ⟨[some v0, some v1, some (lst W), some (.ref a), none, none, x, y], H', H⟩
  | [], pre, x, y, H', e, ha => fo_nil (h x y H' (cat0 e ▸ ha))
  | p :: rr, pre, x, y, H', e, ha => by
    have o := okT hr e
    have hl := pre_le e
    refine fo_cons (ρ' := [some v0, some v1, some (lst W), some (.ref a), none, none, some p.1.v, some p.2.v]) rfl (w_app (w := knV W (tx (Tx pre) p.1 ++ tx (Tx pre) p.2)) rfl ha hB (fun _ _ q => ca_known hW (seq_ref ha) o.1 _ _ (ca_known hW (seq_ref ha) o.2 _ _ (ca_both hW (tx_pre hr e o.1) (tx_pre hr e o.2) _ _ q))) (sl (by rw [List.length_map, Tx_length]; omega)) (kf_nil (lp_1 hW hr hn hB h rr (pre ++ [p]) _ _ _ (cat1 e) ?_)))
    rw [Tx_snoc, List.map_append]; exact upd_eq
theorem lp_2 {Q : V → Prop} {X : String → St → Prop} {a : Nat} {v0 v1 : V} {x6 x7 : Option V} {H' : AH} (hW : W.length = 2) (hr : RulesOk rs) (hw : RowOk rs.length row) (ha : H' a = some (.list ((Tx rs).map (knV W)))) (q : Q (.tup [.int (occs W (bt rs row)).length, fV (occs W (bt rs row)).head?])) : ∀ (rr pre : List Sy) (x : Option V), pre ++ rr = row → 1 ≤ (bt rs pre).length →
    Fo (C3 ad (d + 1)) (.var 5) lpB2 lpR (PK H Q) X (rr.map Sy.v) ⟨[some v0, some v1, some (lst W), some (.ref a), some (knV W (bt rs pre)), x, x6, x7], H', H⟩
  | [], pre, x, e, _ => fo_nil (r1 (w := .tup [.int (occs W (bt rs row)).length, fV (occs W (bt rs row)).head?]) (fun _ _ q => cat0 e ▸ ⟨le2, cat0 e ▸ q⟩) (frz_two rfl (fz_fV _)) q)
  | s :: rr, pre, x, e, hp => by
    have os : s.ok rs.length := hw s (List.mem_of_getElem? (at_pre e))
    have ot : s.ok (Tx rs).length := by rw [Tx_length]; exact os
    have ih := lp_2 (X := X) (v0 := v0) (v1 := v1) (x6 := x6) (x7 := x7) hW hr hw ha q rr (pre ++ [s]) (some s.v) (cat1 e)
    rw [bt_append, bt_one] at ih
    exact fo_cons (ρ' := [some v0, some v1, some (lst W), some (.ref a), some (knV W (bt rs pre)), some s.v, x6, x7]) rfl (w_asg (w := knV W (bt rs pre ++ tx (Tx rs) s)) (fun _ _ q => ca_known hW (seq_ref ha) ot _ _ (ca_both hW hp (tx_pos hr os) _ _ q)) rfl (kf_nil (ih (by rw [List.length_append]; omega))))
theorem ca_pairs {s : Sy} {rr : List Sy} (hW : W.length = 2) (h : Bk rs row) (e : s :: rr = row) : Ca (C3 ad (d + 2)) "_law_pairs" [.lst (rs.map pv), .lst (row.map Sy.v), lst W] H (.tup [.int (occs W (bt rs row)).length, fV (occs W (bt rs row)).head?]) := ca_of (fn := L13.F_law_pairs) rfl rfl (by decide) fun Q X q => by
  have os : s.ok rs.length := h.w s (e ▸ List.mem_cons_self ..)
  have ot : s.ok (Tx rs).length := by rw [Tx_length]; exact os
  refine w_own0 rfl fun a h1 h3 => w_for (xs := rs.map pv) (ds := []) (fun _ _ q => q) (.inr nofun) (lp_1 (d := d) hW h.r h.n h3 (fun x y H' ha => ?_) rs [] none none _ rfl upd_eq)
  have hl := lp_2 (ad := ad) (d := d) (H := H) (Q := Q) (X := fun x _ => X x) (v0 := .lst (rs.map pv)) (v1 := .lst (row.map Sy.v)) (x6 := x) (x7 := y) hW h.r h.w ha q rr [s] none e (by rw [bt_one]; exact tx_pos h.r os)
  rw [bt_one] at hl
  subst e
  refine w_asg (w := knV W (tx (Tx rs) s)) (fun _ _ q => sb_row (H := H') (row := s :: rr) (k := 0) rfl _ (ca_known hW (seq_ref ha) ot _ _ q)) rfl (w_for (xs := rr.map Sy.v) (ds := []) (fun Q' X' q' => ?_) (.inr nofun) hl)
  have ec : cutL (s.v :: rr.map Sy.v) (clip (s.v :: rr.map Sy.v).length 1) (s.v :: rr.map Sy.v).length = rr.map Sy.v := cut1 ..
  show Q' (cutL (s.v :: rr.map Sy.v) (clip (s.v :: rr.map Sy.v).length 1) (s.v :: rr.map Sy.v).length) []
  rw [ec]; exact q'
end
end Lib
end

section
set_option autoImplicit false
set_option linter.unusedSimpArgs false
set_option linter.unusedVariables false
namespace Lib
open PySem
noncomputable def sgn (c : Int) : Nat := SG.getD (c.fmod 95).toNat 0
theorem sg_len : SG.length = 95 := by decide +kernel
theorem sgn_lt (c : Int) : (c.fmod 95).toNat < SG.length := by
  have := fm c (b := 95) (by omega)
  rw [sg_len]; omega
theorem sgn_get (c : Int) : SG[(c.fmod 95).toNat]? = some (sgn c) := by
  unfold sgn
  rw [List.getD, List.getElem?_eq_getElem (sgn_lt c)]; rfl
theorem sgn_mem (c : Int) : sgn c ∈ SG := List.mem_of_getElem? (sgn_get c)
/-! the rules of law 13, and their texts -/
noncomputable def R13 (w : Bool) (a b : Nat) : Nat → Rl
  | 0 => (.ch a, .ch b)
  | k + 1 => if w then (.ru k, .ru k) else if k = 0 then (.ru 0, .ch a) else (.ru k, .ru (k - 1))
noncomputable def rs13 (w : Bool) (a b n : Nat) : List Rl := (List.range n).map (R13 w a b)
theorem rs13_len {w : Bool} {a b n : Nat} : (rs13 w a b n).length = n := by simp [rs13]
theorem rs13_succ {w : Bool} {a b n : Nat} : rs13 w a b (n + 1) = rs13 w a b n ++ [R13 w a b n] := by simp [rs13, List.range_succ]
theorem rs13_get {w : Bool} {a b n k : Nat} (h : k < n) : (rs13 w a b n)[k]? = some (R13 w a b k) := by simp [rs13, h]
theorem R13_ok {w : Bool} {a b : Nat} (ha : a ∈ SG) (hb : b ∈ SG) (k : Nat) : (R13 w a b k).1.ok k ∧ (R13 w a b k).2.ok k := by
  cases k with
  | zero => exact ⟨ha, hb⟩
  | succ k =>
    cases w
    · by_cases e : k = 0
      · subst e; exact ⟨Nat.one_pos, ha⟩
      · simp only [R13, Bool.false_eq_true, if_false, e]
        exact ⟨Nat.lt_succ_self k, show k - 1 < k + 1 by omega⟩
    · exact ⟨Nat.lt_succ_self k, Nat.lt_succ_self k⟩
theorem rs13_ok {w : Bool} {a b n : Nat} (ha : a ∈ SG) (hb : b ∈ SG) : RulesOk (rs13 w a b n) := by
  intro i p hp
  obtain ⟨hlt, _⟩ := List.getElem?_eq_some_iff.mp hp
  rw [rs13_len] at hlt
  rw [rs13_get hlt] at hp
  cases hp
  exact R13_ok ha hb i
/-! depth -/
theorem ht_at {n k : Nat} (h : k < n) : ht ((List.range n).map (· + 1)) (.ru k) = k + 1 := by simp [ht, List.getD, h]
theorem Hts13 {w : Bool} {a b : Nat} : ∀ n : Nat, Hts (rs13 w a b n) = (List.range n).map (· + 1)
  | 0 => rfl
  | n + 1 => by
    rw [rs13_succ, Hts_snoc, Hts13 n, List.range_succ, List.map_append]
    congr 1
    cases n with
    | zero => rfl
    | succ n =>
      show [_] = [n + 1 + 1]
      congr 1
      cases w
      · by_cases e : n = 0
        · subst e; rfl
        · simp only [R13, Bool.false_eq_true, if_false, e]
          rw [ht_at (Nat.lt_succ_self n), ht_at (show n - 1 < n + 1 by omega)]; omega
      · simp only [R13, if_true]
        rw [ht_at (Nat.lt_succ_self n)]; omega
theorem maxI_rep (x : Int) : ∀ t : Nat, maxI x (List.replicate t x) = x
  | 0 => rfl
  | t + 1 => by
    rw [List.replicate_succ]
    show maxI (if x > x then x else x) _ = x
    rw [if_neg (by omega)]; exact maxI_rep x t
noncomputable def row13 (ah : List Nat) (n t : Nat) : List Sy := ah.map Sy.ch ++ List.replicate t (.ru (n - 1))
theorem row13_ok {ah : List Nat} {n t : Nat} (ha : ∀ c ∈ ah, c ∈ SG) (hn : 0 < n) : RowOk n (row13 ah n t) := by
  intro s hs
  rcases List.mem_append.mp hs with q | q
  · obtain ⟨c, hc, rfl⟩ := List.mem_map.mp q; exact ha c hc
  · rw [(List.mem_replicate.mp q).2]; show n - 1 < n; omega
theorem dp13 {w : Bool} {a b n t : Nat} {ah : List Nat} (hn : 0 < n) (hah : ah = [] ∨ ∃ c, ah = [c]) : dp (rs13 w a b n) (row13 ah n t) = if 0 < t then (n : Int) else 0 := by
  unfold dp row13
  rw [Hts13, List.map_append, List.map_replicate, ht_at (show n - 1 < n by omega), show n - 1 + 1 = n by omega]
  rcases hah with rfl | ⟨c, rfl⟩
  · cases t with
    | zero => rfl
    | succ t =>
      rw [if_pos (by omega)]
      show (match List.replicate (t + 1) (n : Int) with
        | [] => (0 : Int)
        | i :: r => maxI i r) = _
      rw [List.replicate_succ]; exact maxI_rep _ t
  · show maxI 0 (List.replicate t (n : Int)) = _
    cases t with
    | zero => rfl
    | succ t =>
      rw [if_pos (by omega), List.replicate_succ]
      show maxI (if (n : Int) > 0 then (n : Int) else 0) _ = _
      rw [if_pos (by omega)]; exact maxI_rep _ t
/-! uses -/
theorem cn_append (a b : List Sy) (j : Nat) : cn (a ++ b) j = cn a j + cn b j := by simp [cn]
theorem cn13 {ah : List Nat} {n t : Nat} (j : Nat) : cn (row13 ah n t) j = if n - 1 = j then (t : Int) else 0 := by
  unfold row13
  rw [cn_append]
  have e1 : cn (ah.map Sy.ch) j = 0 := by
    induction ah with
    | nil => rfl
    | cons c r ih =>
      have : cn (Sy.ch c :: r.map Sy.ch) j = 0 + cn (r.map Sy.ch) j := rfl
      rw [List.map_cons, this, ih]; rfl
  have e2 : cn (List.replicate t (.ru (n - 1))) j = if n - 1 = j then (t : Int) else 0 := by
    induction t with
    | zero => show (0 : Int) = _; split <;> rfl
    | succ t ih =>
      have : cn (Sy.ru (n - 1) :: List.replicate t (.ru (n - 1))) j = (if n - 1 = j then 1 else 0) + cn (List.replicate t (.ru (n - 1))) j := rfl
      rw [List.replicate_succ, this, ih]
      split <;> omega
  rw [e1, e2]; omega
/-! lengths -/
theorem bt_rep {rs : List Rl} {s : Sy} : ∀ t : Nat, bt rs (List.replicate t s) = repL t (tx (Tx rs) s)
  | 0 => rfl
  | t + 1 => by rw [List.replicate_succ, bt_cons, bt_rep t]; rfl
theorem repL_len {α : Type} {l : List α} : ∀ t : Nat, (repL t l).length = t * l.length
  | 0 => by simp [repL]
  | t + 1 => by
    have : repL (t + 1) l = l ++ repL t l := rfl
    rw [this, List.length_append, repL_len t, Nat.succ_mul]; omega
theorem bt_chs {rs : List Rl} : ∀ ah : List Nat, bt rs (ah.map Sy.ch) = ah
  | [] => rfl
  | c :: r => by rw [List.map_cons, bt_cons, bt_chs r]; rfl
theorem bt13 {rs : List Rl} {ah : List Nat} {n t : Nat} : bt rs (row13 ah n t) = ah ++ repL t (tx (Tx rs) (.ru (n - 1))) := by
  unfold row13; rw [bt_append, bt_chs, bt_rep]
/-! texts of two signs by turns -/
noncomputable def P2 (a b m : Nat) : List Nat := repL m [a, b]
theorem P2_succ {a b m : Nat} : P2 a b (m + 1) = a :: b :: P2 a b m := rfl
theorem P2_add {a b : Nat} : ∀ m k : Nat, P2 a b (m + k) = P2 a b m ++ P2 a b k
  | 0, k => by rw [Nat.zero_add]; rfl
  | m + 1, k => by rw [Nat.succ_add, P2_succ, P2_succ, P2_add m k]; rfl
theorem P2_len {a b m : Nat} : (P2 a b m).length = 2 * m := by rw [P2, repL_len]; simp; omega
theorem P2_rep {a b m : Nat} : ∀ t : Nat, repL t (P2 a b m) = P2 a b (t * m)
  | 0 => by rw [Nat.zero_mul]; rfl
  | t + 1 => by
    have : repL (t + 1) (P2 a b m) = P2 a b m ++ repL t (P2 a b m) := rfl
    rw [this, P2_rep t, Nat.succ_mul, Nat.add_comm, P2_add]
theorem P2_get {a b : Nat} : ∀ m i : Nat, (P2 a b m)[i]? = if i < 2 * m then some (if i % 2 = 0 then a else b) else none
  | 0, i => by rw [if_neg (by omega)]; rfl
  | m + 1, 0 => by rw [if_pos (by omega)]; rfl
  | m + 1, 1 => by rw [if_pos (by omega)]; rfl
  | m + 1, i + 2 => by
    rw [P2_succ, List.getElem?_cons_succ, List.getElem?_cons_succ, P2_get m i]
    by_cases h : i < 2 * m
    · rw [if_pos h, if_pos (show i + 2 < 2 * (m + 1) by omega), show (i + 2) % 2 = i % 2 by omega]
    · rw [if_neg h, if_neg (show ¬ i + 2 < 2 * (m + 1) by omega)]
theorem tx13 {a b n : Nat} (ha : a ∈ SG) (hb : b ∈ SG) : ∀ k : Nat, k < n → tx (Tx (rs13 true a b n)) (.ru k) = P2 a b (2 ^ k)
  | 0, h => tx_rule (rs13_ok ha hb) (rs13_get h)
  | k + 1, h => by
    have h1 : tx (Tx (rs13 true a b n)) (.ru (k + 1)) = tx (Tx (rs13 true a b n)) (.ru k) ++ tx (Tx (rs13 true a b n)) (.ru k) := tx_rule (rs13_ok ha hb) (rs13_get h)
    rw [h1, tx13 ha hb k (by omega), ← P2_add]
    congr 1; rw [Nat.pow_succ]; omega
/-! where a word by turns stands -/
noncomputable def W13 (a b r z : Nat) : List Nat := ((P2 a b 101).drop r).take z
theorem W13_len {a b r z : Nat} (hr : r ≤ 1) (hz : z ≤ 200) : (W13 a b r z).length = z := by
  rw [W13, List.length_take, List.length_drop, P2_len]; omega
theorem W13_get {a b r z i : Nat} (hr : r ≤ 1) (hz : z ≤ 200) (hi : i < z) : (W13 a b r z)[i]? = some (if (r + i) % 2 = 0 then a else b) := by
  rw [W13, List.getElem?_take_of_lt hi, List.getElem?_drop, P2_get, if_pos (by omega)]
theorem at_P2 {a b r z m k : Nat} (hab : a ≠ b) (hr : r ≤ 1) (h0 : 0 < z) (hz : z ≤ 200) (hk : k + z ≤ 2 * m) : at? (W13 a b r z) (P2 a b m) k = decide (k % 2 = r) := by
  unfold at?
  rw [W13_len hr hz, decide_eq_decide]
  have g : ∀ i, i < z → (((P2 a b m).drop k).take z)[i]? = some (if (k + i) % 2 = 0 then a else b) := fun i hi => by
    rw [List.getElem?_take_of_lt hi, List.getElem?_drop, P2_get, if_pos (by omega)]
  constructor
  · intro e
    have q := g 0 h0
    rw [e, W13_get hr hz h0] at q
    have q := Option.some.inj q
    rw [Nat.add_zero, Nat.add_zero] at q
    by_cases h1 : k % 2 = 0 <;> by_cases h2 : r % 2 = 0
    · omega
    · rw [if_neg h2, if_pos h1] at q; exact absurd q.symm hab
    · rw [if_pos h2, if_neg h1] at q; exact absurd q hab
    · omega
  · intro e
    refine List.ext_getElem? fun i => ?_
    by_cases hi : i < z
    · rw [g i hi, W13_get hr hz hi, show (k + i) % 2 = (r + i) % 2 by omega]
    · rw [List.getElem?_eq_none (by rw [List.length_take]; omega), List.getElem?_eq_none (by rw [W13_len hr hz]; omega)]
theorem evens {r : Nat} (hr : r ≤ 1) : ∀ n : Nat, ((List.range n).filter fun k => decide (k % 2 = r)).length = (n + 1 - r) / 2 ∧ ((List.range n).filter fun k => decide (k % 2 = r)).head? = if r < n then some r else none
  | 0 => ⟨by show 0 = _; omega, by rw [if_neg (by omega)]; rfl⟩
  | n + 1 => by
    obtain ⟨i1, i2⟩ := evens hr n
    rw [List.range_succ, List.filter_append, List.length_append, List.head?_append, i1, i2]
    by_cases h : n % 2 = r
    · rw [List.filter_cons_of_pos (p := fun k => decide (k % 2 = r)) (decide_eq_true h)]
      refine ⟨by simp only [List.filter_nil, List.length_singleton]; omega, ?_⟩
      by_cases q : r < n
      · rw [if_pos q, if_pos (by omega)]; rfl
      · rw [if_neg q, if_pos (by omega)]
        show some n = some r
        congr 1; omega
    · rw [List.filter_cons_of_neg (p := fun k => decide (k % 2 = r)) (by rw [decide_eq_true_eq]; exact h)]
      refine ⟨by simp only [List.filter_nil, List.length_nil]; omega, ?_⟩
      by_cases q : r < n
      · rw [if_pos q, if_pos (by omega)]; rfl
      · rw [if_neg q, if_neg (by omega)]; rfl
theorem occs_P2 {a b r z m : Nat} (hab : a ≠ b) (hr : r ≤ 1) (h0 : 0 < z) (hz : z ≤ 200) : (occs (W13 a b r z) (P2 a b m)).length = (2 * m + 2 - z - r) / 2 ∧ (occs (W13 a b r z) (P2 a b m)).head? = if r + z ≤ 2 * m then some r else none := by
  have hl := W13_len (a := a) (b := b) hr hz
  have e : occs (W13 a b r z) (P2 a b m) = (List.range (2 * m + 1 - z)).filter fun k => decide (k % 2 = r) := by
    rw [← occs_law (n := 2 * m + 1 - z) (by omega) (by rw [P2_len]; omega) (by rw [P2_len]; omega)]
    refine List.filter_congr fun k hk => at_P2 hab hr h0 hz ?_
    have := List.mem_range.mp hk
    omega
  rw [e]
  obtain ⟨q1, q2⟩ := evens hr (2 * m + 1 - z)
  refine ⟨by rw [q1]; omega, by rw [q2]; congr 1; exact propext ⟨fun _ => by omega, fun _ => by omega⟩⟩
theorem occs_cons {W t : List Nat} {c : Nat} (h : W[0]? ≠ some c) (hW : 0 < W.length) : occs W (c :: t) = (occs W t).map (1 + ·) := by
  unfold occs
  rw [List.length_cons, List.range_succ_eq_map, List.filter_cons_of_neg, List.filter_map]
  · congr 1
    · exact funext fun k => Nat.succ_eq_one_add k
  · intro q
    have q := of_decide_eq_true q
    apply h
    rw [← q, List.drop_zero, List.getElem?_take_of_lt hW]; rfl
theorem occs13 {a b c r z m : Nat} {ah : List Nat} (hab : a ≠ b) (hca : c ≠ a) (hcb : c ≠ b) (hr : r ≤ 1) (h0 : 0 < z) (hz : z ≤ 200) (hah : ah = [] ∨ ah = [c]) :
    (occs (W13 a b r z) (ah ++ P2 a b m)).length = (2 * m + 2 - z - r) / 2 ∧ (occs (W13 a b r z) (ah ++ P2 a b m)).head? = if r + z ≤ 2 * m then some (ah.length + r) else none := by
  obtain ⟨q1, q2⟩ := occs_P2 (m := m) hab hr h0 hz
  rcases hah with rfl | rfl
  · refine ⟨q1, ?_⟩
    rw [List.nil_append, q2]; simp
  · have hne : (W13 a b r z)[0]? ≠ some c := by
      rw [W13_get hr hz h0]
      intro q
      have q := Option.some.inj q
      split at q
      · exact hca q.symm
      · exact hcb q.symm
    show (occs (W13 a b r z) (c :: P2 a b m)).length = _ ∧ (occs (W13 a b r z) (c :: P2 a b m)).head? = _
    rw [occs_cons hne (by rw [W13_len hr hz]; exact h0), List.length_map, List.head?_map, q2]
    refine ⟨q1, ?_⟩
    by_cases h : r + z ≤ 2 * m
    · rw [if_pos h, if_pos h]; rfl
    · rw [if_neg h, if_neg h]; rfl
/-! the signs differ -/
theorem sg_inj : ∀ i, i < 95 → ∀ j, j < 95 → SG[i]? = SG[j]? → i = j := by decide +kernel
theorem sgn_inj {x y : Int} (h : sgn x = sgn y) : x.fmod 95 = y.fmod 95 := by
  have f1 := fm x (b := 95) (by decide)
  have f2 := fm y (b := 95) (by decide)
  have := sg_inj (x.fmod 95).toNat (by omega) (y.fmod 95).toNat (by omega) (by rw [sgn_get, sgn_get, h])
  omega
end Lib
end

section
set_option autoImplicit false
set_option linter.unusedSimpArgs false
set_option linter.unusedVariables false
namespace Lib
open PySem Mine
theorem mod_nat (i : Int) {m : Nat} (h : 0 < m) : ∃ k : Nat, k < m ∧ i.fmod m = k := by
  have f := fm i (b := (m : Int)) (by omega)
  exact ⟨(i.fmod m).toNat, by omega, by omega⟩
theorem sign_cat : Str.ofString " !\"#$&'()*+,-./0123456789:;<=>?@ABCDEFGHIJKLMNOPQRSTUVWXYZ[\\]^_`" ++ Str.ofString "abcdefghijklmnopqrstuvwxyz{|}~\n" = SIGNS := by decide +kernel
theorem cm_nes {H : AH} {v : V} (h : Dn 64 v) : Cm H .ne v v false := fun Q q => (show eqV H v v (fun r => Q (!r)) from eqV_same h q)
theorem cm_eqs {H : AH} {v : V} (h : Dn 64 v) : Cm H .eq v v true := fun Q q => (show eqV H v v Q from eqV_same h q)
theorem ev_modN {C : Cx} {st : St} {e : E} {i : Int} {m k : Nat} (he : Ev C st e (.int i)) (hm : 0 < m) (hk : i.fmod m = k) : Ev C st (.bin .mod e (.int m)) (.int k) := hk ▸ ev_mod he ev_int (by omega)
section
variable {ad d : Nat} {H : AH} {ns : List Int} {a b n : Nat}
theorem cell_of {k : Nat} (Q : V → Prop) (X : String → Prop) (q : ∀ i : Int, Q (.int i)) : (C3 ad (d + 1)).call "_law_cell_at" [.lst (ns.map V.int), .int k] H Q X := call_of (fn := L13.F_law_cell_at) rfl rfl (by decide) (w_if (decide ((k : Int) < ns.length)) (ev_cmp (ev_var rfl) (ec_one (ev_len (n := ns.length) (ev_var rfl) (by show some _ = _; rw [List.length_map])) cm_lt)) (fun e => by
  have hk : k < ns.length := Int.ofNat_lt.mp (of_decide_eq_true e)
  exact r2 (w := .int ns[k]) (ev_sub (ev_var rfl) (ev_var rfl) (sb_lst (by rw [List.getElem?_map, List.getElem?_eq_getElem hk]; rfl))) rfl (q _)) fun _ => kn_nil (r1 ev_int rfl (q 0)))
theorem sb_txt {l : List Nat} {k c : Nat} (h : l[k]? = some c) : Sb H (lst l) (.int k) (lst [c]) := fun Q q => by
  show (match idx l.length (k : Int) with
    | some n => (match l[n]? with
      | some c => Q (.str ⟨#[c]⟩)
      | none => False)
    | none => False)
  rw [idx_nat (List.getElem?_eq_some_iff.mp h).1]
  show (match l[k]? with
    | some c => Q (.str ⟨#[c]⟩)
    | none => False)
  rw [h]; exact q
theorem ca_sgn {i : Int} : Ca (C3 ad (d + 1)) "_law_sign_by" [.int i] H (lst [sgn i]) := ca_of (fn := L13.F_law_sign_by) rfl rfl (by decide) fun Q X q => by
  have hf := fm i (b := 95) (by omega)
  refine w_asg ev_str rfl (w_asg (w := .str SIGNS) (sign_cat ▸ ev_cat (ev_var rfl) ev_str (by decide +kernel)) rfl (r1 (w := lst [sgn i]) (ev_sub (k := .int ((i.fmod 95).toNat : Nat)) (ev_var rfl) (ev_modN (m := 95) (ev_var rfl) (by decide) (Int.toNat_of_nonneg hf.1).symm) (sb_txt (l := SG) (sgn_get i))) rfl q))
noncomputable def ruB : Bl := .cons (.ite (.cmp (.var 2) (.one .eq (.int 0))) (.cons (.append (.var 3) (.pure (.tup (.cons (.var 4) (.cons (.var 4) .nil))))) .nil) (.cons (.ite (.cmp (.var 4) (.one .eq (.int 0))) (.cons (.append (.var 3) (.pure (.tup (.cons (.int 0) (.cons (.sub (.var 0) (.int 0)) .nil))))) .nil) (.cons (.append (.var 3) (.pure (.tup (.cons (.var 4) (.cons (.bin .sub (.var 4) (.int 1)) .nil))))) .nil)) .nil)) .nil
theorem ru_loop {Q : V → Prop} {X : String → St → Prop} {r : Nat} {y : Int} (hn : n ≤ 300) (hB : H r = none) (q : Q (.lst ((rs13 (decide (y = 0)) a b n).map pv))) : ∀ (m k : Nat) (x : Option V) (H' : AH), k + 1 + m = n → H' r = some (.list ((rs13 (decide (y = 0)) a b (k + 1)).map pv)) →
    Fo (C3 ad d) (.var 4) ruB (.cons (.ret (.var 3)) .nil) (PK H Q) X (upL k ((n : Int) - 1)) ⟨[some (lst [a, b]), some (.int n), some (.int y), some (.ref r), x], H', H⟩
  | 0, k, x, H', e, ha => by
    rw [upL_nil (by omega)]
    have e : k + 1 = n := e
    rw [e] at ha
    exact fo_nil (r1 (ev_var rfl) (frz_ref hB ha fz_rules) q)
  | m + 1, k, x, H', e, ha => by
    rw [upL_cons (by omega)]
    have ih := ru_loop (X := X) hn hB q m (k + 1) (some (.int k))
    rw [rs13_succ (n := k + 1), List.map_append] at ih
    have hl : ((rs13 (decide (y = 0)) a b (k + 1)).map pv).length < sizeLine := sl (by rw [List.length_map, rs13_len]; omega)
    refine fo_cons (ρ' := [some (lst [a, b]), some (.int n), some (.int y), some (.ref r), some (.int k)]) rfl (w_if (decide (y = 0)) (ev_cmp (ev_var rfl) (ec_one ev_int cm_eq)) (fun ey => ?_) fun ey => w_if (decide ((k : Int) = 0)) (ev_cmp (ev_var rfl) (ec_one ev_int cm_eq)) (fun ek => ?_) fun ek => ?_)
    · rw [ey] at ih ha hl
      exact w_app (w := pv (.ru k, .ru k)) rfl ha hB (fun _ _ q => ⟨le2, q⟩) hl (kn_nil (kf_nil (ih _ (by omega) upd_eq)))
    · rw [ey] at ih ha hl
      have ek : k = 0 := by have := of_decide_eq_true ek; omega
      subst ek
      exact w_app (w := pv (.ru 0, .ch a)) rfl ha hB (fun _ _ q => ⟨le2, q⟩) hl (kn_nil (kn_nil (kf_nil (ih _ (by omega) upd_eq))))
    · rw [ey] at ih ha hl
      have ek : k ≠ 0 := by have := of_decide_eq_false ek; omega
      have eR : R13 false a b (k + 1) = (.ru k, .ru (k - 1)) := by simp only [R13, Bool.false_eq_true, if_false, ek]
      rw [eR] at ih
      exact w_app (w := pv (.ru k, .ru (k - 1))) rfl ha hB (ev_tup (vs := [.int k, .int (k - 1 : Nat)]) (evs_cons (ev_var rfl) (evs_cons ((show ((k : Int) - 1) = ((k - 1 : Nat) : Int) by omega) ▸ ev_sb (ev_var rfl) ev_int) evs_nil)) rfl) hl (kn_nil (kn_nil (kf_nil (ih _ (by omega) upd_eq))))
theorem ca_rules {y : Int} (hn : n ≤ 300) (h1 : 1 ≤ n) : Ca (C3 ad (d + 1)) "_law_rules" [lst [a, b], .int n, .int y] H (.lst ((rs13 (decide (y = 0)) a b n).map pv)) := ca_of (fn := L13.F_law_rules) rfl rfl (by decide) fun Q X q => w_own1 (w := pv (.ch a, .ch b)) (fun _ _ q => ⟨le2, q⟩) rfl fun r r1 r2 => w_for (xs := upL 0 ((n : Int) - 1)) (ds := []) (ei_range1 (ev_sb (ev_var rfl) ev_int) ⟨by omega, by omega⟩) (.inr nofun) (ru_loop hn r2 q (n - 1) 0 _ _ (by omega) upd_eq)
/-! a word of two signs by turns -/
theorem ev_mulT {C : Cx} {st : St} {e e' : E} {l : List Nat} {n : Nat} (ha : Ev C st e (lst l)) (hb : Ev C st e' (.int n)) (h : n ≤ 200) (h2 : l.length ≤ 10) : Ev C st (.bin .mul e e') (lst (repL n l)) := ev_bin ha hb fun _ q => ⟨by omega, by omega, Nat.le_trans (Nat.mul_le_mul h2 h) (by decide), q⟩
theorem ca_turns {c : Int} {cc M : Nat} {ah : List Nat} (hab : a ≠ b) (hca : cc ≠ a) (hcb : cc ≠ b) (hah : ah = [] ∨ ah = [cc]) (ha : a ∈ SG) (hb : b ∈ SG) : ∃ W m, W.length = m + 1 ∧ m ≤ 199 ∧ (∀ x ∈ W, x ∈ SG) ∧ Ca (C3 ad (d + 1)) "_law_turns" [lst [a, b], lst ah, .int (2 * M : Nat), .int c] H (.tup [lst W, .int (occs W (ah ++ P2 a b M)).length, fV (occs W (ah ++ P2 a b M)).head?]) := by
  obtain ⟨r, hr, er⟩ := mod_nat c (m := 2) (by decide)
  obtain ⟨z, hz, ez⟩ := mod_nat (c.fdiv 2) (m := 200) (by decide)
  have hl := W13_len (a := a) (b := b) (r := r) (z := z + 1) (by omega) (by omega)
  obtain ⟨o1, o2⟩ := occs13 (a := a) (b := b) (c := cc) (r := r) (z := z + 1) (m := M) (ah := ah) hab hca hcb (by omega) (by omega) (by omega) hah
  refine ⟨W13 a b r (z + 1), z, hl, by omega, fun x hx => ?_, ca_of (fn := L13.F_law_turns) rfl rfl (by decide) fun Q X q => ?_⟩
  · have hx : x ∈ P2 a b 101 := List.mem_of_mem_drop (List.mem_of_mem_take hx)
    unfold P2 repL at hx
    obtain ⟨l, hl, hx⟩ := List.mem_flatten.mp hx
    rw [(List.mem_replicate.mp hl).2] at hx
    rcases List.mem_cons.mp hx with rfl | hx
    · exact ha
    · rw [List.mem_singleton.mp hx]; exact hb
  · rw [o1, o2] at q
    have em : ∀ {x4 x5 x6 x7 x8 : Option V}, Ev (C3 ad d) ⟨[some (lst [a, b]), some (lst ah), some (.int (2 * M : Nat)), some (.int c), x4, x5, x6, x7, x8], H, H⟩ (.bin .mod (.var 3) (.int 2)) (.int r) := ev_modN (m := 2) (ev_var rfl) (by decide) er
    refine w_asg (w := .int ((z + 1 : Nat) : Int)) ((show (1 + (z : Int)) = ((z + 1 : Nat) : Int) by omega) ▸ ev_add ev_int (ev_modN (m := 200) (ev_fdiv (ev_var rfl) ev_int (by decide)) (by decide) ez)) rfl (w_asg (w := lst (W13 a b r (z + 1))) (ev_slT (l := P2 a b 101) (ev_mulT (n := 101) (ev_var rfl) ev_int (by decide) (Nat.le_of_ble_eq_true rfl)) em (ev_addN em (ev_var rfl)) (by rw [P2_len]; omega)) rfl (w_asg (w := .int ((2 * M : Nat) - ((z + 1 : Nat) : Int) + 1 - r)) (ev_sb (ev_add (ev_sb (ev_var rfl) (ev_var rfl)) ev_int) em) rfl (w_asg (w := .int (((2 * M + 2 - (z + 1) - r) / 2 : Nat) : Int)) ?_ rfl (w_asg (w := .none) ev_none rfl ?_))))
    · have := ev_max2 (C := C3 ad d) (st := ⟨[some (lst [a, b]), some (lst ah), some (.int (2 * M : Nat)), some (.int c), some (.int ((z + 1 : Nat) : Int)), some (lst (W13 a b r (z + 1))), some (.int ((2 * M : Nat) - ((z + 1 : Nat) : Int) + 1 - r)), none, none], H, H⟩) ev_int (ev_fdiv (ev_add (ev_var (i := 6) rfl) ev_int) ev_int (by decide : (2 : Int) ≠ 0)) (i := 0) (j := (((2 * M : Nat) - ((z + 1 : Nat) : Int) + 1 - r) + 1).fdiv 2)
      rw [Int.fdiv_eq_ediv_of_nonneg _ (by decide : (0 : Int) ≤ 2), show max (0 : Int) ((((2 * M : Nat) - ((z + 1 : Nat) : Int) + 1 - r) + 1) / 2) = (((2 * M + 2 - (z + 1) - r) / 2 : Nat) : Int) by omega] at this
      exact this
    · by_cases h : r + (z + 1) ≤ 2 * M
      · rw [if_pos h] at q
        exact w_ift (decide_eq_true (show (((2 * M + 2 - (z + 1) - r) / 2 : Nat) : Int) > 0 by omega) ▸ ev_cmp (ev_var rfl) (ec_one ev_int cm_gt)) (w_asg (w := .int ((ah.length + r : Nat) : Int)) (ev_addN (ev_lenT (ev_var rfl)) em) rfl (kn_nil (r1 (w := .tup [lst (W13 a b r (z + 1)), .int (((2 * M + 2 - (z + 1) - r) / 2 : Nat) : Int), .int ((ah.length + r : Nat) : Int)]) (fun _ _ q => ⟨Nat.le_of_ble_eq_true rfl, q⟩) rfl q)))
      · rw [if_neg h] at q
        exact w_iff (decide_eq_false (show ¬ (((2 * M + 2 - (z + 1) - r) / 2 : Nat) : Int) > 0 by omega) ▸ ev_cmp (ev_var rfl) (ec_one ev_int cm_gt)) (kn_nil (r1 (w := .tup [lst (W13 a b r (z + 1)), .int (((2 * M + 2 - (z + 1) - r) / 2 : Nat) : Int), .none]) (fun _ _ q => ⟨Nat.le_of_ble_eq_true rfl, q⟩) rfl q))
/-! a place -/
theorem place_of {c : Int} {w : Nat} (hw : 1 ≤ w) (Q : V → Prop) (X : String → Prop) (q : ∀ k : Nat, k < w → Q (.int k)) : (C3 ad (d + 1)).call "_law_place" [.int c, .int w] H Q X := by
  obtain ⟨j, hj, ej⟩ := mod_nat c (m := 4) (by decide)
  have h4 : (4 : Int) ≠ 0 := by decide
  have hw0 : (w : Int) ≠ 0 := by omega
  have key : ∀ v : Int, ∃ k : Nat, k < w ∧ max 0 (min ((w : Int) - 1) v) = k := fun v => ⟨(max 0 (min ((w : Int) - 1) v)).toNat, by omega, by omega⟩
  obtain ⟨L, hL, eL⟩ : ∃ L : List Int, L.length = 4 ∧ Ev (C3 ad d) ⟨[some (.int c), some (.int w), none], H, H⟩ (.list (.cons (.bin .mod (.bin .fdiv (.var 0) (.int 4)) (.int 70)) (.cons (.bin .sub (.bin .sub (.var 1) (.int 1)) (.bin .mod (.bin .fdiv (.var 0) (.int 4)) (.int 70))) (.cons (.bin .sub (.bin .add (.bin .fdiv (.var 1) (.int 2)) (.bin .mod (.bin .fdiv (.var 0) (.int 4)) (.int 70))) (.int 35)) (.cons (.bin .mod (.bin .fdiv (.var 0) (.int 4)) (.var 1)) .nil))))) (.lst (L.map V.int)) :=
    ⟨[_, _, _, _], rfl, ev_list (evs_cons (ev_mod (ev_fdiv (ev_var rfl) ev_int h4) ev_int (by decide)) (evs_cons (ev_sb (ev_sb (ev_var rfl) ev_int) (ev_mod (ev_fdiv (ev_var rfl) ev_int h4) ev_int (by decide))) (evs_cons (ev_sb (ev_add (ev_fdiv (ev_var rfl) ev_int (by decide)) (ev_mod (ev_fdiv (ev_var rfl) ev_int h4) ev_int (by decide))) ev_int) (evs_cons (ev_mod (ev_fdiv (ev_var rfl) ev_int h4) (ev_var rfl) hw0) evs_nil)))) rfl⟩
  obtain ⟨k, hk, ek⟩ := key (L[j]'(by omega))
  exact call_of (fn := L13.F_law_place) rfl rfl (by decide) (w_asg eL rfl (r1 (w := .int k) (ek ▸ ev_max2 ev_int (ev_min2 (ev_sb (ev_var rfl) ev_int) (ev_sub (k := .int j) (ev_var rfl) (ev_modN (m := 4) (ev_var rfl) (by decide) ej) (sb_lst (by rw [List.getElem?_map, List.getElem?_eq_getElem (by omega)]; rfl))))) rfl (q k hk)))
end
end Lib
end

section
set_option autoImplicit false
set_option linter.unusedSimpArgs false
set_option linter.unusedVariables false
namespace Lib
open PySem Mine
noncomputable def EvQ (C : Cx) (st : St) (e : E) (P : V → Prop) : Prop := ∀ (Q : V → Prop) (X : String → Prop), (∀ w, P w → Q w) → WE C e st Q X
section
variable {C : Cx} {ρ : List (Option V)} {H B : AH} {Q : Fl → St → Prop} {X : String → St → Prop} {b : Bl} {e : E} {P : V → Prop}
theorem w_asgq {i : Nat} (he : EvQ C ⟨ρ, H, B⟩ e P) (hi : Nat.blt i ρ.length = true) (hb : ∀ w, P w → WB C b ⟨ρ.set i (some w), H, B⟩ Q X) : WB C (.cons (.assign (.var i) e) b) ⟨ρ, H, B⟩ Q X := he _ _ fun w hw => by
  show (match (match putV i w ρ with
    | some ρ' => _
    | none => False) with
    | p => p)
  unfold putV; rw [if_pos (Nat.blt_eq.mp hi)]; exact hb w hw
end
theorem ev_pick2 {C : Cx} {st : St} {e1 e2 e : E} {a b : V} {t : Bool} (h1 : Ev C st e1 a) (h2 : Ev C st e2 b) (h : Ev C st e (.bool t)) : Ev C st (.sub (.list (.cons e1 (.cons e2 .nil))) (.intOf e)) (if t then b else a) := by
  cases t
  · exact ev_sub (ev_list (vs := [a, b]) (evs_cons h1 (evs_cons h2 evs_nil)) rfl) (ev_intOf h) (sb_lst (n := 0) rfl)
  · exact ev_sub (ev_list (vs := [a, b]) (evs_cons h1 (evs_cons h2 evs_nil)) rfl) (ev_intOf h) (sb_lst (n := 1) rfl)
theorem if_int {t : Bool} {i j : Int} : (if t then V.int j else V.int i) = V.int (if t then j else i) := by cases t <;> rfl
section
variable {ad d : Nat} {H : AH} {ns : List Int} {rs : List Rl} {row : List Sy}
theorem dn_way {c : Nat} {l : List Nat} : Dn 64 (.tup [.str ⟨#[c]⟩, .lst (nv l)]) := .tup fun v hv => by
  rcases List.mem_cons.mp hv with rfl | hv
  · exact .str _
  · rw [List.mem_singleton.mp hv]; exact .nv l
theorem dn_cut {l : List Nat} {o : Nat} : Dn 64 (.tup [jn l, .int o]) := .tup fun v hv => by
  rcases List.mem_cons.mp hv with rfl | hv
  · exact .str _
  · rw [List.mem_singleton.mp hv]; exact .int _
noncomputable def lkE : E := .min2 (.var 2) (.bin .add (.var 4) (.bin .mod (.bin .fdiv (.call "_law_cell_at" (.cons (.var 3) (.cons (.int 5) .nil))) (.int 10)) (.sub (.list (.cons (.int 61) (.cons (.int 3001) .nil))) (.intOf (.cmp (.bin .mod (.call "_law_cell_at" (.cons (.var 3) (.cons (.int 5) .nil))) (.int 10)) (.one .eq (.int 7)))))))
theorem evq_lk {v0 v1 : V} {w k : Nat} (hk : k < w) : EvQ (C3 ad (d + 1)) ⟨[some v0, some v1, some (.int w), some (.lst (ns.map V.int)), some (.int k), none, none], H, H⟩ lkE (fun v => ∃ e : Nat, k ≤ e ∧ e ≤ w ∧ e ≤ k + 3000 ∧ v = .int e) := fun Q X q => by
  have key : ∀ i i' : Int, ∃ e : Nat, (k ≤ e ∧ e ≤ w ∧ e ≤ k + 3000) ∧ Ev (C3 ad (d + 1)) ⟨[some v0, some v1, some (.int w), some (.lst (ns.map V.int)), some (.int k), none, none], H, H⟩ (.min2 (.var 2) (.bin .add (.var 4) (.bin .mod (.bin .fdiv (.int i) (.int 10)) (.sub (.list (.cons (.int 61) (.cons (.int 3001) .nil))) (.intOf (.cmp (.bin .mod (.int i') (.int 10)) (.one .eq (.int 7)))))))) (.int e) := fun i i' => by
    have e2 := ev_pick2 (C := C3 ad (d + 1)) (st := ⟨[some v0, some v1, some (.int w), some (.lst (ns.map V.int)), some (.int k), none, none], H, H⟩) (ev_int (i := 61)) (ev_int (i := 3001)) (ev_cmp (ev_mod (ev_int (i := i')) ev_int (by decide : (10 : Int) ≠ 0)) (ec_one (ev_int (i := 7)) cm_eq))
    rw [if_int] at e2
    have hm : ∃ m : Nat, (m = 61 ∨ m = 3001) ∧ (if decide (i'.fmod 10 = 7) then (3001 : Int) else 61) = m := by
      cases decide (i'.fmod 10 = 7)
      · exact ⟨61, .inl rfl, rfl⟩
      · exact ⟨3001, .inr rfl, rfl⟩
    obtain ⟨m, hm, em⟩ := hm
    rw [em] at e2
    obtain ⟨j, hj, ej⟩ := mod_nat (i.fdiv 10) (m := m) (by omega)
    refine ⟨min w (k + j), by omega, ?_⟩
    have e3 := ev_min2 (C := C3 ad (d + 1)) (st := ⟨[some v0, some v1, some (.int w), some (.lst (ns.map V.int)), some (.int k), none, none], H, H⟩) (ev_var (i := 2) (v := .int w) rfl) (ev_add (ev_var (i := 4) (v := .int k) rfl) (ev_mod (ev_fdiv (ev_int (i := i)) (ev_int (i := 10)) (by decide)) e2 (by omega)))
    rw [ej, show min (w : Int) ((k : Int) + j) = ((min w (k + j) : Nat) : Int) by omega] at e3
    exact e3
  exact cell_of _ _ fun i => ⟨by decide, le2, cell_of _ _ fun i' => by
    obtain ⟨e, he, ev⟩ := key i i'
    exact (ev Q X (q _ ⟨e, he.1, he.2.1, he.2.2, rfl⟩)).2.2⟩
theorem looked_of {Q : V → Prop} {X : String → Prop} {w : Nat} (h : Bk rs row) (hw : w = (bt rs row).length) (h1 : 1 ≤ w) (q : Q (.bool true)) : (C3 ad (d + 7)).call "_law_looked" [bookV rs row, .lst (szv (Tx rs)), .int w, .lst (ns.map V.int)] H Q X := by
  refine call_of (fn := L13.F_law_looked) rfl rfl (by decide) (w_asgq (P := fun v => ∃ k : Nat, k < w ∧ v = .int k) (fun Q X q => cell_of _ _ fun i => place_of h1 _ _ fun k hk => q _ ⟨k, hk, rfl⟩) rfl ?_)
  rintro _ ⟨k, hk, rfl⟩
  obtain ⟨pre, s, post, p, e1, e2, hp⟩ := split_at row k (hw ▸ hk)
  have os : s.ok rs.length := h.w s (e1 ▸ List.mem_append_right _ (List.mem_cons_self ..))
  obtain ⟨c, l, wy, _, hl⟩ := way_of h.r s os p hp
  have hl : l.length ≤ 600 := Nat.le_trans hl h.n
  have s1 := ca_sign (ad := ad) (d := d) (H := H) h e1.symm hp wy hl
  have s2 := ca_way (ad := ad) (d := d + 4) (H := H) h e1.symm hp wy hl
  rw [← e2] at s1 s2
  refine w_iff (ev_cmp (fun _ _ q => s1 _ _ q) (ec_one (fun _ _ q => s2 _ _ q) (cm_nes dn_way))) (kn_nil (w_asgq (evq_lk (d := d + 5) hk) rfl ?_))
  rintro _ ⟨e, g1, g2, g3, rfl⟩
  obtain ⟨L, o, ct, hL⟩ := ctL_of (S := k) (E := e) h.r row h.w 0
  have hL : L.length ≤ 4000 := by unfold cl at hL; omega
  have c1 := ca_cut (ad := ad) (d := d) (H := H) h g1 (hw ▸ g2) ct hL
  refine w_asg (w := .tup [jn L, .int o]) (fun _ _ q => c1 _ _ q) rfl (w_if (decide ((k : Int) = e)) (ev_cmp (ev_var rfl) (ec_one (ev_var rfl) cm_eq)) (fun ee => ?_) fun ee => ?_)
  · have ee := of_decide_eq_true ee
    obtain ⟨rfl, rfl⟩ := ctL_same (by omega) ct
    exact r2 (w := .bool true) (ev_cmp (ev_var rfl) (ec_one (v := .tup [jn [], .int (0 : Nat)]) (fun _ _ q => ⟨le2, q⟩) (cm_eqs dn_cut))) rfl q
  · have ee := of_decide_eq_false ee
    have c2 := ca_str (ad := ad) (d := d + 4) (H := H) h (show k < e by omega) ct hL
    exact kn_nil (r1 (w := .bool true) (ev_cmp (ev_var rfl) (ec_one (fun _ _ q => c2 _ _ q) (cm_eqs dn_cut))) rfl q)
end
end Lib
end

section
set_option autoImplicit false
set_option linter.unusedSimpArgs false
set_option linter.unusedVariables false
namespace Lib
open PySem Mine
noncomputable def dropB : Nat → Bl → Bl
  | 0, b => b
  | n + 1, .cons _ b => dropB n b
  | _, .nil => .nil
noncomputable def IsI (v : V) : Prop := ∃ i : Int, v = .int i
section
variable {ad : Nat} {H : AH} {ns : List Int} {rs : List Rl} {row : List Sy} {Q : V → Prop} {X : String → St → Prop} {v1 v4 v5 v7 : V} {a b c w n t : Nat} {i3 : Int} {x14 x15 x16 : Option V}
theorem dn_fv {o : Option Nat} {n : Nat} : Dn n (fV o) := by cases o <;> first | exact .none | exact .int _
theorem dn_pr {i : Int} {o : Option Nat} : Dn 64 (.tup [.int i, fV o]) := .tup fun v hv => by
  rcases List.mem_cons.mp hv with rfl | hv
  · exact .int _
  · rw [List.mem_singleton.mp hv]; exact dn_fv
theorem dn_szv {ts : List (List Nat)} : Dn 64 (.lst (szv ts)) := .lst fun v hv => by obtain ⟨s, _, rfl⟩ := List.mem_map.mp hv; exact .int _
theorem dn_fl {n : Nat} {f : Nat → Int} : Dn 64 (.lst (fl n f)) := .lst fun v hv => by obtain ⟨s, _, rfl⟩ := List.mem_map.mp hv; exact .int _
noncomputable def S13 (ns : List Int) (rs : List Rl) (row : List Sy) (v1 v4 v5 v7 : V) (a b c w n t : Nat) (x13 x14 x15 x16 : Option V) : List (Option V) := [some (.lst (ns.map V.int)), some v1, some (lst [a, b]), some (lst [c]), some v4, some v5, some (.int n), some v7, some (.int t), some (.lst (rs.map pv)), some (.lst (szv (Tx rs))), some (bookV rs row), some (.int w), x13, x14, x15, x16]
theorem law_c (h : Bk rs row) (ha : a ∈ SG) (hb : b ∈ SG) (hc : c ∈ SG) (hw : w = (bt rs row).length) (q : Q (.bool true)) : WB (C3 ad 29) (dropB 16 L13.F_law.body) ⟨S13 ns rs row v1 v4 v5 v7 a b c w n t (some (.int i3)) x14 x15 x16, H, H⟩ (PK H Q) X := by
  refine w_if (decide ((w : Int) = 0)) (ev_cmp (ev_var rfl) (ec_one ev_int cm_eq)) (fun e => ?_) fun e => ?_
  · obtain ⟨L, o, ct, hL⟩ := ctL_of (S := 0) (E := 0) h.r row h.w 0
    obtain ⟨rfl, rfl⟩ := ctL_same (by omega) ct
    have c1 := ca_cut (ad := ad) (d := 23) (H := H) h (Nat.le_refl 0) (Nat.zero_le _) ct (Nat.zero_le _)
    exact r2 (w := .bool true) (ev_cmp (fun _ _ q => c1 _ _ q) (ec_one (v := .tup [jn [], .int (0 : Nat)]) (fun _ _ q => ⟨le2, q⟩) (cm_eqs dn_cut))) rfl q
  · have h1 : 1 ≤ w := by have := of_decide_eq_false e; omega
    have hmem : ∀ x ∈ [a, b, c], x ∈ SG := List.forall_mem_cons.mpr ⟨ha, List.forall_mem_cons.mpr ⟨hb, List.forall_mem_singleton.mpr hc⟩⟩
    obtain ⟨j, hj, ej⟩ := mod_nat i3 (m := 3) (by decide)
    obtain ⟨k, hk, ek⟩ := mod_nat (i3.fdiv 3) (m := 3) (by decide)
    have gj : [a, b, c][j]? = some ([a, b, c][j]'hj) := List.getElem?_eq_getElem hj
    have gk : [a, b, c][k]? = some ([a, b, c][k]'hk) := List.getElem?_eq_getElem hk
    have mj := hmem _ (List.getElem_mem (l := [a, b, c]) hj)
    have mk := hmem _ (List.getElem_mem (l := [a, b, c]) hk)
    generalize [a, b, c][j]'hj = w1 at gj mj
    generalize [a, b, c][k]'hk = w2 at gk mk
    have hS : ∀ x ∈ [w1, w2], x ∈ SG := List.forall_mem_cons.mpr ⟨mj, List.forall_mem_singleton.mpr mk⟩
    obtain ⟨s, rr, er⟩ : ∃ s rr, s :: rr = row := by
      cases row with
      | nil => rw [hw] at h1; cases h1
      | cons s rr => exact ⟨s, rr, rfl⟩
    have ec : ∀ {x : Option V}, Ev (C3 ad 29) ⟨S13 ns rs row v1 v4 v5 v7 a b c w n t (some (.int i3)) x x15 x16, H, H⟩ (.bin .add (.var 2) (.var 3)) (lst [a, b, c]) := fun {x} => ev_catT (x := [a, b]) (y := [c]) (ev_var rfl) (ev_var rfl) (Nat.le_of_ble_eq_true rfl)
    refine kn_nil (w_asg (w := lst [w1, w2]) (ev_catT (x := [w1]) (y := [w2]) (ev_sub ec (ev_modN (m := 3) (ev_var rfl) (by decide) ej) (sb_txt gj)) (ev_sub ec (ev_modN (m := 3) (ev_fdiv (ev_var rfl) ev_int (by decide)) (by decide) ek) (sb_txt gk)) (Nat.le_of_ble_eq_true rfl)) rfl (w_iff (ev_cmp (ev_tup (vs := [.int (occs [w1, w2] (bt rs row)).length, fV (occs [w1, w2] (bt rs row)).head?]) (evs_cons (fun _ _ q => ca_how (d := 23) (m := 1) h hS rfl (by decide) _ _ q) (evs_cons (fun _ _ q => ca_first (d := 23) (m := 1) h hS rfl (by decide) _ _ q) evs_nil)) rfl) (ec_one (fun _ _ q => ca_pairs (d := 27) rfl h er _ _ q) (cm_nes dn_pr))) (kn_nil (r1 (w := .bool true) (fun _ _ q => looked_of (d := 22) h hw h1 q) rfl q))))
theorem idx_last {n : Nat} (h : 0 < n) : idx n (-1) = some (n - 1) := by
  unfold idx
  rw [if_neg (by decide), if_pos (by omega), show ((-1 : Int) + n).toNat = n - 1 by omega]
theorem sb_last {H : AH} (hr : 0 < rs.length) : Sb H (.lst (szv (Tx rs))) (.int (-1)) (.int (tx (Tx rs) (.ru (rs.length - 1))).length) := fun Q q => by
  show (match idx (szv (Tx rs)).length (-1) with
    | some n => (match (szv (Tx rs))[n]? with
      | some v => Q v
      | Option.none => False)
    | Option.none => False)
  rw [szv_length, Tx_length, idx_last hr]
  show (match (szv (Tx rs))[rs.length - 1]? with
      | some v => Q v
      | Option.none => False)
  rw [szv_at (by rw [Tx_length]; omega)]; exact q
theorem law_b {y : Int} {ah : List Nat} (hab : a ≠ b) (hca : c ≠ a) (hcb : c ≠ b) (ha : a ∈ SG) (hb : b ∈ SG) (hc : c ∈ SG) (hah : ah = [] ∨ ah = [c]) (hn : 2 ≤ n) (hn3 : n ≤ 300) (ht : t < 6) (q : Q (.bool true)) (hrs : rs = rs13 (decide (y = 0)) a b n) (hrow : row = row13 ah n t) (h : Bk rs row) (hw : w = (bt rs row).length) :
    WB (C3 ad 29) (dropB 12 L13.F_law.body) ⟨S13 ns rs row v1 v4 (lst ah) (.int y) a b c w n t none none none none, H, H⟩ (PK H Q) X := by
  have hl : rs.length = n := by rw [hrs, rs13_len]
  have eu : cn row = up (fun _ => 0) (rs.length - 1) (t : Int) := funext fun j => by
    rw [hrow, cn13, hl]
    unfold up
    by_cases e : j = n - 1
    · rw [if_pos e, if_pos e.symm]
    · rw [if_neg e, if_neg (Ne.symm e)]
  have ed : dp rs row = (n : Int) * (if decide ((t : Int) > 0) then 1 else 0) := by
    rw [hrs, hrow, dp13 (by omega) (hah.imp id fun e => ⟨c, e⟩)]
    by_cases e : 0 < t
    · rw [if_pos e, if_pos (decide_eq_true (by omega)), Int.mul_one]
    · rw [if_neg e, if_neg (by rw [decide_eq_true_eq]; omega), Int.mul_zero]
  have c1 := ca_length (ad := ad) (d := 23) (H := H) h
  have c4 := ca_used (ad := ad) (d := 28) (H := H) (t := (t : Int)) h.r h.n (by omega)
  have c5 := ca_depth (ad := ad) (d := 24) (H := H) h
  rw [← hw] at c1
  rw [← eu] at c4
  rw [ed] at c5
  refine w_iff (ev_or (p := false) (q := false) (ev_cmp (fun _ _ q => c1 _ _ q) (ec_one (ev_var rfl) (cm_nes (.int _)))) fun _ => ev_or (p := false) (q := false) (ev_cmp (fun _ _ q => ca_lens (d := 24) h _ _ q) (ec_one (ev_var rfl) (cm_nes dn_szv))) fun _ => ev_cmp (fun _ _ q => ca_uses (d := 24) h _ _ q) (ec_one (fun _ _ q => c4 _ _ q) (cm_nes dn_fl))) (kn_nil (w_iff (ev_cmp (fun _ _ q => c5 _ _ q) (ec_one (ev_mul (ev_var rfl) (ev_intOf (ev_cmp (ev_var rfl) (ec_one ev_int cm_gt))) (.inl (by omega))) (cm_nes (.int _)))) (kn_nil (w_asgq (P := IsI) (fun Q X q => cell_of (k := 3) _ _ fun i => q _ ⟨i, rfl⟩) rfl ?_))))
  rintro _ ⟨i3, rfl⟩
  have hC := fun x14 x15 x16 => law_c (ad := ad) (H := H) (ns := ns) (Q := Q) (X := X) (v1 := v1) (v4 := v4) (v5 := lst ah) (v7 := .int y) (n := n) (t := t) (i3 := i3) (x14 := x14) (x15 := x15) (x16 := x16) h ha hb hc hw q
  refine w_if (decide (y = 0) && decide ((n : Int) < 61)) (ev_and (ev_cmp (ev_var rfl) (ec_one ev_int cm_eq)) fun _ => ev_cmp (ev_var rfl) (ec_one ev_int cm_lt)) (fun e => ?_) fun e => kn_nil (hC _ _ _)
  have ey := (Bool.and_eq_true_iff.mp e).1
  rw [ey] at hrs
  have et : tx (Tx rs) (.ru (n - 1)) = P2 a b (2 ^ (n - 1)) := by rw [hrs]; exact tx13 ha hb _ (by omega)
  have eb : bt rs row = ah ++ P2 a b (t * 2 ^ (n - 1)) := by rw [hrow, bt13, et, P2_rep]
  obtain ⟨W, m, hm, hm2, hS, cT⟩ := ca_turns (ad := ad) (d := 28) (H := H) (c := i3) (M := t * 2 ^ (n - 1)) hab hca hcb hah ha hb
  rw [← eb] at cT
  have es : Ev (C3 ad 29) ⟨S13 ns rs row v1 v4 (lst ah) (.int y) a b c w n t (some (.int i3)) none none none, H, H⟩ (.bin .mul (.var 8) (.sub (.var 10) (.neg (.int 1)))) (.int ((2 * (t * 2 ^ (n - 1)) : Nat) : Int)) := by
    have e3 := ev_mul (C := C3 ad 29) (st := ⟨S13 ns rs row v1 v4 (lst ah) (.int y) a b c w n t (some (.int i3)) none none none, H, H⟩) (ev_var (i := 8) (v := .int t) rfl) (ev_sub (ev_var (i := 10) rfl) (ev_neg (ev_int (i := 1))) (sb_last (by omega))) (.inl (by omega))
    rw [hl, et, P2_len] at e3
    rw [show ((2 * (t * 2 ^ (n - 1)) : Nat) : Int) = (t : Int) * ((2 * 2 ^ (n - 1) : Nat) : Int) by rw [← Int.natCast_mul, Nat.mul_left_comm]]
    exact e3
  exact w_asgt (vs := [lst W, .int (occs W (bt rs row)).length, fV (occs W (bt rs row)).head?]) (ev_call (evs_cons (ev_var rfl) (evs_cons (ev_var rfl) (evs_cons es (evs_cons (ev_var rfl) evs_nil)))) cT) rfl (w_iff (ev_or (p := false) (q := false) (ev_cmp (fun _ _ q => ca_how (d := 23) h hS hm hm2 _ _ q) (ec_one (ev_var rfl) (cm_nes (.int _)))) fun _ => ev_cmp (fun _ _ q => ca_first (d := 23) h hS hm hm2 _ _ q) (ec_one (ev_var rfl) (cm_nes dn_fv))) (kn_nil (kn_nil (hC _ _ _))))
end
theorem rep1 {α : Type} {x : α} : ∀ t : Nat, repL t [x] = List.replicate t x
  | 0 => rfl
  | t + 1 => congrArg (x :: ·) (rep1 t)
theorem row_v {ah : List Nat} {n t : Nat} : (row13 ah n t).map Sy.v = ah.map (fun c => .str ⟨#[c]⟩) ++ repL t [.int (n - 1 : Nat)] := by
  unfold row13
  rw [List.map_append, List.map_map, List.map_replicate, rep1]; rfl
/-! the three signs differ -/
theorem signs3 (i : Int) : sgn i ≠ sgn (i + 1 + (i.fdiv 95).fmod 93) ∧ sgn (i + 94) ≠ sgn i ∧ sgn (i + 94) ≠ sgn (i + 1 + (i.fdiv 95).fmod 93) := by
  obtain ⟨k, hk, ek⟩ := mod_nat (i.fdiv 95) (m := 93) (by decide)
  rw [show (i.fdiv 95).fmod 93 = k from ek]
  have e : ∀ j : Int, j.fmod 95 = j % 95 := fun j => Int.fmod_eq_emod_of_nonneg j (by decide)
  refine ⟨fun h => ?_, fun h => ?_, fun h => ?_⟩ <;> (have := sgn_inj h; rw [e, e] at this; omega)
section
variable {ad : Nat} {ns : List Int}
theorem law_a {H : AH} {v1 v4 : V} {Q : V → Prop} {X : String → St → Prop} {a b c n t : Nat} {y : Int} {ah : List Nat} (s1 : a ≠ b) (s2 : c ≠ a) (s3 : c ≠ b) (m1 : a ∈ SG) (m2 : b ∈ SG) (m3 : c ∈ SG) (hah : ah = [] ∨ ah = [c]) (hn : 2 ≤ n) (hn3 : n ≤ 300) (ht : t < 6) (q : Q (.bool true)) :
    WB (C3 ad 29) (dropB 8 L13.F_law.body) ⟨[some (.lst (ns.map V.int)), some v1, some (lst [a, b]), some (lst [c]), some v4, some (lst ah), some (.int n), some (.int y), some (.int t), none, none, none, none, none, none, none, none], H, H⟩ (PK H Q) X := by
  have hl := rs13_len (w := decide (y = 0)) (a := a) (b := b) (n := n)
  have hB : Bk (rs13 (decide (y = 0)) a b n) (row13 ah n t) := ⟨rs13_ok m1 m2, by
    rw [hl]
    refine row13_ok (fun x hx => ?_) (by omega)
    rcases hah with rfl | rfl
    · cases hx
    · rw [List.mem_singleton.mp hx]; exact m3, by omega, by
    unfold row13
    rw [List.length_append, List.length_map, List.length_replicate]
    rcases hah with rfl | rfl
    · show 0 + t ≤ _; omega
    · show 1 + t ≤ _; omega⟩
  have hw : (bt (rs13 (decide (y = 0)) a b n) (row13 ah n t)).length = ah.length + t * (tx (Tx (rs13 (decide (y = 0)) a b n)) (.ru (n - 1))).length := by rw [bt13, List.length_append, repL_len]
  have c1 := ca_rules (ad := ad) (d := 28) (H := H) (a := a) (b := b) (y := y) hn3 (by omega)
  have er := row_v (ah := ah) (n := n) (t := t)
  have h6 : ah.length ≤ 1 := by rcases hah with rfl | rfl <;> exact Nat.le_of_ble_eq_true rfl
  generalize hrs : rs13 (decide (y = 0)) a b n = rs at hl hB hw c1
  generalize hrow : row13 ah n t = row at hB hw er
  have eb : Ev (C3 ad 29) ⟨[some (.lst (ns.map V.int)), some v1, some (lst [a, b]), some (lst [c]), some v4, some (lst ah), some (.int n), some (.int y), some (.int t), some (.lst (rs.map pv)), some (.lst (szv (Tx rs))), none, none, none, none, none, none], H, H⟩ (.tup (.cons (.var 9) (.cons (.bin .add (.listOf (.seq (.var 5))) (.bin .mul (.list (.cons (.bin .sub (.var 6) (.int 1)) .nil)) (.var 8))) .nil))) (bookV rs row) := by
    refine ev_tup (vs := [.lst (rs.map pv), .lst (row.map Sy.v)]) (evs_cons (ev_var rfl) (evs_cons ?_ evs_nil)) rfl
    rw [er]
    refine ev_catl (ev_listOf (ei_seq (vs := ah.map fun c => .str ⟨#[c]⟩) (ev_var rfl) rfl) (by rw [List.length_map]; exact Nat.le_of_lt (sl (by omega)))) (ev_mulL (vs := [.int (n - 1 : Nat)]) (ev_list (evs_cons ((show ((n : Int) - 1) = ((n - 1 : Nat) : Int) by omega) ▸ ev_sb (ev_var rfl) ev_int) evs_nil) rfl) (ev_var rfl) (by omega) ?_) ?_
    · rw [List.length_singleton, Nat.one_mul]; exact Nat.le_of_lt (sl (by omega))
    · rw [repL_len, List.length_map, List.length_singleton, Nat.mul_one]; exact Nat.le_of_lt (sl (by omega))
  have ew : Ev (C3 ad 29) ⟨[some (.lst (ns.map V.int)), some v1, some (lst [a, b]), some (lst [c]), some v4, some (lst ah), some (.int n), some (.int y), some (.int t), some (.lst (rs.map pv)), some (.lst (szv (Tx rs))), some (bookV rs row), none, none, none, none, none], H, H⟩ (.bin .add (.len (.var 5)) (.bin .mul (.var 8) (.sub (.var 10) (.neg (.int 1))))) (.int (bt rs row).length) := by
    have e1 := sb_last (H := H) (rs := rs) (by omega)
    have e2 : (t : Int).natAbs < 2 ^ 62 := by omega
    rw [hl] at e1
    rw [hw]
    exact ev_add (ev_lenT (ev_var rfl)) (ev_mul (ev_var rfl) (ev_sub (ev_var rfl) (ev_neg ev_int) e1) (.inl e2))
  exact w_asg (fun _ _ q => c1 _ _ q) rfl (w_asg (w := .lst (szv (Tx rs))) (fun _ _ q => ca_szs hB.r hB.n _ _ q) rfl (w_asg eb rfl (w_asg ew rfl (law_b (rs := rs) (row := row) s1 s2 s3 m1 m2 m3 hah hn hn3 ht q hrs.symm hrow.symm hB rfl))))
theorem main13 : (C3 ad 30).call "law" [.lst (ns.map V.int)] (fun _ => none) (fun v => v = .bool true) (fun _ => False) := by
  refine call_of (fn := L13.F_law) rfl rfl (by decide) (w_asgq (P := IsI) (fun Q X q => cell_of (k := 0) _ _ fun i => q _ ⟨i, rfl⟩) rfl ?_)
  rintro _ ⟨i0, rfl⟩
  obtain ⟨s1, s2, s3⟩ := signs3 i0
  have m1 := sgn_mem i0
  have m2 := sgn_mem (i0 + 1 + (i0.fdiv 95).fmod 93)
  have m3 := sgn_mem (i0 + 94)
  refine w_asg (ev_catT (x := [sgn i0]) (y := [sgn (i0 + 1 + (i0.fdiv 95).fmod 93)]) (fun _ _ q => ca_sgn _ _ q) (ev_call (evs_cons (ev_add (ev_add (ev_var rfl) ev_int) (ev_mod (ev_fdiv (ev_var rfl) ev_int (by decide)) ev_int (by decide))) evs_nil) ca_sgn) (Nat.le_of_ble_eq_true rfl)) rfl (w_asg (w := lst [sgn (i0 + 94)]) (fun _ _ q => ca_sgn _ _ q) rfl (w_asgq (P := IsI) (fun Q X q => cell_of (k := 1) _ _ fun i => q _ ⟨i, rfl⟩) rfl ?_))
  rintro _ ⟨i1, rfl⟩
  generalize sgn i0 = a at s1 s2 m1 ⊢
  generalize sgn (i0 + 1 + (i0.fdiv 95).fmod 93) = b at s1 s3 m2 ⊢
  generalize sgn (i0 + 94) = c at s2 s3 m3 ⊢
  obtain ⟨ah, hah, ea⟩ : ∃ ah, (ah = [] ∨ ah = [c]) ∧ Ev (C3 ad 29) ⟨[some (.lst (ns.map V.int)), some (.int i0), some (lst [a, b]), some (lst [c]), some (.int i1), none, none, none, none, none, none, none, none, none, none, none, none], fun _ => none, fun _ => none⟩ (.sub (.list (.cons (.str (Str.ofString "")) (.cons (.var 3) .nil))) (.bin .mod (.var 4) (.int 2))) (lst ah) := by
    obtain ⟨j, hj, ej⟩ := mod_nat i1 (m := 2) (by decide)
    have el := ev_list (C := C3 ad 29) (st := ⟨[some (.lst (ns.map V.int)), some (.int i0), some (lst [a, b]), some (lst [c]), some (.int i1), none, none, none, none, none, none, none, none, none, none, none, none], fun _ => none, fun _ => none⟩) (vs := [lst [], lst [c]]) (evs_cons (e := .str (Str.ofString "")) (fun _ _ q => q) (evs_cons (ev_var (i := 3) rfl) evs_nil)) rfl
    match j, hj, ej with
    | 0, _, ej => exact ⟨[], .inl rfl, ev_sub el (ev_modN (m := 2) (ev_var rfl) (by decide) ej) (sb_lst rfl)⟩
    | 1, _, ej => exact ⟨[c], .inr rfl, ev_sub el (ev_modN (m := 2) (ev_var rfl) (by decide) ej) (sb_lst rfl)⟩
  obtain ⟨n, hn, hn3, en⟩ : ∃ n : Nat, 2 ≤ n ∧ n ≤ 300 ∧ Ev (C3 ad 29) ⟨[some (.lst (ns.map V.int)), some (.int i0), some (lst [a, b]), some (lst [c]), some (.int i1), some (lst ah), none, none, none, none, none, none, none, none, none, none, none], fun _ => none, fun _ => none⟩ (.bin .add (.int 2) (.bin .mod (.bin .fdiv (.var 4) (.int 32)) (.sub (.list (.cons (.int 59) (.cons (.int 299) .nil))) (.intOf (.cmp (.bin .mod (.bin .fdiv (.var 4) (.int 2)) (.int 8)) (.one .eq (.int 3))))))) (.int n) := by
    have e2 := ev_pick2 (C := C3 ad 29) (st := ⟨[some (.lst (ns.map V.int)), some (.int i0), some (lst [a, b]), some (lst [c]), some (.int i1), some (lst ah), none, none, none, none, none, none, none, none, none, none, none], fun _ => none, fun _ => none⟩) (ev_int (i := 59)) (ev_int (i := 299)) (ev_cmp (ev_mod (ev_fdiv (ev_var (i := 4) (v := .int i1) rfl) (ev_int (i := 2)) (by decide)) (ev_int (i := 8)) (by decide)) (ec_one (ev_int (i := 3)) cm_eq))
    rw [if_int] at e2
    have hm : ∃ m : Nat, (m = 59 ∨ m = 299) ∧ (if decide ((i1.fdiv 2).fmod 8 = 3) then (299 : Int) else 59) = m := by
      cases decide ((i1.fdiv 2).fmod 8 = 3)
      · exact ⟨59, .inl rfl, rfl⟩
      · exact ⟨299, .inr rfl, rfl⟩
    obtain ⟨m, hm, em⟩ := hm
    rw [em] at e2
    obtain ⟨j, hj, ej⟩ := mod_nat (i1.fdiv 32) (m := m) (by omega)
    exact ⟨2 + j, by omega, by omega, ev_addN (n := 2) ev_int (ej ▸ ev_mod (ev_fdiv (ev_var rfl) ev_int (by decide)) e2 (by omega))⟩
  refine w_asg ea rfl (w_asg en rfl (w_asg (w := .int ((i1.fdiv 16).fmod 2)) (ev_mod (ev_fdiv (ev_var rfl) ev_int (by decide)) ev_int (by decide)) rfl (w_asgq (P := fun v => ∃ t : Nat, t < 6 ∧ v = .int t) (fun Q X q => cell_of (k := 2) _ _ fun i => ?_) rfl ?_)))
  · obtain ⟨t, ht, et⟩ := mod_nat i (m := 6) (by decide)
    exact (ev_modN (C := C3 ad 29) (st := ⟨[], fun _ => none, fun _ => none⟩) (m := 6) ev_int (by decide) et) Q X (q _ ⟨t, ht, rfl⟩)
  rintro _ ⟨t, ht, rfl⟩
  generalize (i1.fdiv 16).fmod 2 = y
  exact law_a (Q := fun v => v = .bool true) (X := fun _ _ => False) s1 s2 s3 m1 m2 m3 hah hn hn3 ht rfl
end
end Lib
namespace L13
open PySem Mine
theorem main (C : Nat) (ns : List Int) (h : ns.length ≤ 63) : (cxN tbl gtab (ctab C) 30).call "law" [.lst (ns.map V.int)] (fun _ => none) (fun v => v = .bool true) (fun _ => False) := Mine.Lib.main13
end L13
end

end Mine

section
set_option autoImplicit false
namespace Mine
open PySem

/-- what a block's names are: the frame's names and their numbers, how many are in use, the table -/
structure Sc where
  σ : List (Str × Nat)
  used : Nat
  names : List (Str × NameKind)
  fns : List String
  xs : List String
  hot : Bool
  hots : List String
  dead : Bool

noncomputable def opOf : Bop → Operator
  | .add => .Add | .sub => .Sub | .mul => .Mult | .fdiv => .FloorDiv | .mod => .Mod | .pow => .Pow
noncomputable def copOf : Cop → CmpOp
  | .eq => .Eq | .ne => .NotEq | .lt => .Lt | .le => .LtE | .gt => .Gt | .ge => .GtE | .is => .Is | .isnot => .IsNot | .isin => .In | .notin => .NotIn
noncomputable def tyName : Ty → String
  | .int => "int" | .bool => "bool" | .str => "str" | .tuple => "tuple" | .list => "list" | .own c => c | .ValueError => "ValueError"

/-- what a handler's own suite, and what it calls, may not use -/
noncomputable def coldB : List String := ["sum", "max", "min", "reversed", "enumerate", "zip"]
noncomputable def hotOk (c : Sc) (n : String) : Bool := !c.hot || (!coldB.contains n && (!c.fns.contains n || (c.hots.contains n && !c.dead)))
noncomputable def isGlob (c : Sc) (x : Str) (n : String) : Bool := decide (x = Str.ofString n) && decide (c.names.lookup x = some .globalImplicit) && !(x == ("__debug__" : Str)) && hotOk c n
noncomputable def isVar (c : Sc) (x : Str) (i : Nat) : Bool := decide (c.σ.lookup x = some i) && !(x == ("__debug__" : Str))
noncomputable def noStar (x : Expr) : Bool := by cases x with
  | Starred => exact false
  | _ => exact true
/-- no slice, and no written super() -/
noncomputable def plainX (x : Expr) : Bool := by cases x with
  | Starred => exact false
  | Slice => exact false
  | _ => exact true

/-- the names that a target of a comprehension binds, in the comprehension's own table -/
noncomputable def tgNames : Expr → Option (List Str)
  | .Name x _ => some [x]
  | .Tuple [.Name x _, .Name y _] _ _ => some [x, y]
  | _ => none
noncomputable def tgIs (n : Nat) (t : Tg) (xs : List Str) : Bool := by cases t with
  | var i => exact i == n && xs.length == 1
  | tup is => exact false
noncomputable def inner (c : Sc) (xs : List Str) (names : List (Str × NameKind)) : Sc :=
  ⟨(xs.zip (List.range' c.used xs.length)) ++ c.σ.filter (fun p => decide (names.lookup p.1 = some .free)), c.used + xs.length, names, c.fns, c.xs, c.hot, c.hots, c.dead⟩
/-- a comprehension's own table: its targets, names of the frame, globals -/
noncomputable def tableOk (c : Sc) (xs : List Str) (sc : Scope) : Bool :=
  decide (sc.kind = .function) && xs.all (fun x => decide (sc.names.lookup x = some .local) && !(x == (".0" : Str))) && decide xs.Nodup &&
  sc.names.all (fun p => match p.2 with
    | .local => xs.contains p.1 || p.1 == (".0" : Str)
    | .free => decide (sc.names.lookup p.1 = some .free) && (c.σ.lookup p.1).isSome && (decide (c.names.lookup p.1 = some .cell) || decide (c.names.lookup p.1 = some .free)) && !(p.1 == ("__classdict__" : Str))
    | .globalImplicit => true
    | _ => false) && decide (sc.names.map (·.1)).Nodup && !c.dead

noncomputable def canStore (c : Sc) (x : Str) : Bool := decide (c.names.lookup x = some .local) || decide (c.names.lookup x = some .cell)
noncomputable def isSetX (x : Expr) : Bool := by cases x with
  | Set => exact true
  | _ => exact false
noncomputable def listable (x : It) : Bool := by cases x with
  | seq => exact true
  | rev => exact true
  | _ => exact false
noncomputable def walk (x : It) : Bool := by cases x with
  | _ => exact true
noncomputable def plainTy (x : Ty) : Bool := by cases x with
  | own => exact false
  | ValueError => exact false
  | _ => exact true
noncomputable def isTupX (x : Expr) : Bool := by cases x with
  | Tuple => exact true
  | _ => exact false
noncomputable def isEZ (x : It) : Bool := by cases x with
  | enum => exact true
  | zip => exact true
  | _ => exact false
noncomputable def ezOk (it : It) (x : Expr) : Bool := walk it && (!isEZ it || isTupX x)
theorem ezOk_inv {it : It} {x : Expr} (h : ezOk it x = true) (e : isEZ it = true) : isTupX x = true := by
  have h := ((Bool.and_eq_true _ _).mp h).2
  rw [e] at h
  exact h
theorem ezOk_walk {it : It} {x : Expr} (h : ezOk it x = true) : walk it = true := ((Bool.and_eq_true _ _).mp h).1
noncomputable def isNoneE (x : E) : Bool := by cases x with
  | none => exact true
  | _ => exact false

/-! shapes of the program's expressions -/
theorem ff {P : Prop} (h : false = true) : P := Bool.noConfusion h
theorem and2_elim {b0 b1 : Bool} {P : Prop} (h : (b0 && b1) = true) (k : b0 = true → b1 = true → P) : P := k ((Bool.and_eq_true _ _).mp h).1 ((Bool.and_eq_true _ _).mp h).2
theorem and3_elim {b0 b1 b2 : Bool} {P : Prop} (h : ((b0 && b1) && b2) = true) (k : b0 = true → b1 = true → b2 = true → P) : P := and2_elim ((Bool.and_eq_true _ _).mp h).1 fun h0 h1 => k h0 h1 ((Bool.and_eq_true _ _).mp h).2
theorem and4_elim {b0 b1 b2 b3 : Bool} {P : Prop} (h : (((b0 && b1) && b2) && b3) = true) (k : b0 = true → b1 = true → b2 = true → b3 = true → P) : P := and3_elim ((Bool.and_eq_true _ _).mp h).1 fun h0 h1 h2 => k h0 h1 h2 ((Bool.and_eq_true _ _).mp h).2
theorem and5_elim {b0 b1 b2 b3 b4 : Bool} {P : Prop} (h : ((((b0 && b1) && b2) && b3) && b4) = true) (k : b0 = true → b1 = true → b2 = true → b3 = true → b4 = true → P) : P := and4_elim ((Bool.and_eq_true _ _).mp h).1 fun h0 h1 h2 h3 => k h0 h1 h2 h3 ((Bool.and_eq_true _ _).mp h).2
theorem and6_elim {b0 b1 b2 b3 b4 b5 : Bool} {P : Prop} (h : (((((b0 && b1) && b2) && b3) && b4) && b5) = true) (k : b0 = true → b1 = true → b2 = true → b3 = true → b4 = true → b5 = true → P) : P := and5_elim ((Bool.and_eq_true _ _).mp h).1 fun h0 h1 h2 h3 h4 => k h0 h1 h2 h3 h4 ((Bool.and_eq_true _ _).mp h).2
theorem and7_elim {b0 b1 b2 b3 b4 b5 b6 : Bool} {P : Prop} (h : ((((((b0 && b1) && b2) && b3) && b4) && b5) && b6) = true) (k : b0 = true → b1 = true → b2 = true → b3 = true → b4 = true → b5 = true → b6 = true → P) : P := and6_elim ((Bool.and_eq_true _ _).mp h).1 fun h0 h1 h2 h3 h4 h5 => k h0 h1 h2 h3 h4 h5 ((Bool.and_eq_true _ _).mp h).2
/-- of this make -/
noncomputable def Is {α β : Type} (mk : α → β) (x : β) : Type := { q : α // x = mk q }
noncomputable def onO {α : Type} (o : Option α) (f : α → Bool) : Bool := by cases o with
  | none => exact false
  | some a => exact f a
theorem onO_inv {α : Type} {o : Option α} {f : α → Bool} (h : onO o f = true) : ∃ a, f a = true := by
  cases o with
  | none => exact ff h
  | some a => exact ⟨a, h⟩
noncomputable def on1 {α β1 : Type} (o : Option α) (g1 : α → β1) (f : β1 → Bool) : Bool := onO o fun q => f (g1 q)
theorem on1_inv {α β1 : Type} {o : Option α} {g1 : α → β1} {f : β1 → Bool} (h : on1 o g1 f = true) : ∃ q, f (g1 q) = true := onO_inv h
noncomputable def on2 {α β1 β2 : Type} (o : Option α) (g1 : α → β1) (g2 : α → β2) (f : β1 → β2 → Bool) : Bool := onO o fun q => f (g1 q) (g2 q)
theorem on2_inv {α β1 β2 : Type} {o : Option α} {g1 : α → β1} {g2 : α → β2} {f : β1 → β2 → Bool} (h : on2 o g1 g2 f = true) : ∃ q, f (g1 q) (g2 q) = true := onO_inv h
noncomputable def on3 {α β1 β2 β3 : Type} (o : Option α) (g1 : α → β1) (g2 : α → β2) (g3 : α → β3) (f : β1 → β2 → β3 → Bool) : Bool := onO o fun q => f (g1 q) (g2 q) (g3 q)
theorem on3_inv {α β1 β2 β3 : Type} {o : Option α} {g1 : α → β1} {g2 : α → β2} {g3 : α → β3} {f : β1 → β2 → β3 → Bool} (h : on3 o g1 g2 g3 f = true) : ∃ q, f (g1 q) (g2 q) (g3 q) = true := onO_inv h
noncomputable def on4 {α β1 β2 β3 β4 : Type} (o : Option α) (g1 : α → β1) (g2 : α → β2) (g3 : α → β3) (g4 : α → β4) (f : β1 → β2 → β3 → β4 → Bool) : Bool := onO o fun q => f (g1 q) (g2 q) (g3 q) (g4 q)
theorem on4_inv {α β1 β2 β3 β4 : Type} {o : Option α} {g1 : α → β1} {g2 : α → β2} {g3 : α → β3} {g4 : α → β4} {f : β1 → β2 → β3 → β4 → Bool} (h : on4 o g1 g2 g3 g4 f = true) : ∃ q, f (g1 q) (g2 q) (g3 q) (g4 q) = true := onO_inv h
noncomputable def aConst (x : Expr) : Option (Is (fun q : Const × Nat × Pos => Expr.Constant (q.1) (q.2.1) (q.2.2)) x) := by cases x with
  | Constant v k p => exact some ⟨(v, k, p), rfl⟩
  | _ => exact none
noncomputable def onConst (x : Expr) (f : Const → Bool) : Bool := on1 (aConst x) (fun q => q.1.1) f
noncomputable def aName (x : Expr) : Option (Is (fun q : Str × Pos => Expr.Name (q.1) (q.2)) x) := by cases x with
  | Name y p => exact some ⟨(y, p), rfl⟩
  | _ => exact none
noncomputable def onName (x : Expr) (f : Str → Bool) : Bool := on1 (aName x) (fun q => q.1.1) f
noncomputable def aBin (x : Expr) : Option (Is (fun q : Expr × Operator × Expr × Pos => Expr.BinOp (q.1) (q.2.1) (q.2.2.1) (q.2.2.2)) x) := by cases x with
  | BinOp l o r p => exact some ⟨(l, o, r, p), rfl⟩
  | _ => exact none
noncomputable def onBin (x : Expr) (f : Expr → Operator → Expr → Bool) : Bool := on3 (aBin x) (fun q => q.1.1) (fun q => q.1.2.1) (fun q => q.1.2.2.1) f
noncomputable def aUn (x : Expr) : Option (Is (fun q : UnaryOp × Expr × Pos => Expr.UnaryOp (q.1) (q.2.1) (q.2.2)) x) := by cases x with
  | UnaryOp o y p => exact some ⟨(o, y, p), rfl⟩
  | _ => exact none
noncomputable def onUn (x : Expr) (f : UnaryOp → Expr → Bool) : Bool := on2 (aUn x) (fun q => q.1.1) (fun q => q.1.2.1) f
noncomputable def aBool (x : Expr) : Option (Is (fun q : BoolOp × (List Expr) × Pos => Expr.BoolOp (q.1) (q.2.1) (q.2.2)) x) := by cases x with
  | BoolOp o ys p => exact some ⟨(o, ys, p), rfl⟩
  | _ => exact none
noncomputable def onBool (x : Expr) (f : BoolOp → (List Expr) → Pos → Bool) : Bool := on3 (aBool x) (fun q => q.1.1) (fun q => q.1.2.1) (fun q => q.1.2.2) f
noncomputable def aIf (x : Expr) : Option (Is (fun q : Expr × Expr × Expr × Pos => Expr.IfExp (q.1) (q.2.1) (q.2.2.1) (q.2.2.2)) x) := by cases x with
  | IfExp y z u p => exact some ⟨(y, z, u, p), rfl⟩
  | _ => exact none
noncomputable def onIf (x : Expr) (f : Expr → Expr → Expr → Bool) : Bool := on3 (aIf x) (fun q => q.1.1) (fun q => q.1.2.1) (fun q => q.1.2.2.1) f
noncomputable def aList (x : Expr) : Option (Is (fun q : (List Expr) × Pos => Expr.List (q.1) (q.2)) x) := by cases x with
  | List xs p => exact some ⟨(xs, p), rfl⟩
  | _ => exact none
noncomputable def onList (x : Expr) (f : (List Expr) → Bool) : Bool := on1 (aList x) (fun q => q.1.1) f
noncomputable def aTup (x : Expr) : Option (Is (fun q : (List Expr) × Nat × Pos => Expr.Tuple (q.1) (q.2.1) (q.2.2)) x) := by cases x with
  | Tuple xs k p => exact some ⟨(xs, k, p), rfl⟩
  | _ => exact none
noncomputable def onTup (x : Expr) (f : (List Expr) → Bool) : Bool := on1 (aTup x) (fun q => q.1.1) f
noncomputable def aCmp (x : Expr) : Option (Is (fun q : Expr × (List CmpOp) × (List Expr) × Pos => Expr.Compare (q.1) (q.2.1) (q.2.2.1) (q.2.2.2)) x) := by cases x with
  | Compare l o r p => exact some ⟨(l, o, r, p), rfl⟩
  | _ => exact none
noncomputable def onCmp (x : Expr) (f : Expr → (List CmpOp) → (List Expr) → Bool) : Bool := on3 (aCmp x) (fun q => q.1.1) (fun q => q.1.2.1) (fun q => q.1.2.2.1) f
noncomputable def aSub (x : Expr) : Option (Is (fun q : Expr × Expr × Pos => Expr.Subscript (q.1) (q.2.1) (q.2.2)) x) := by cases x with
  | Subscript y z p => exact some ⟨(y, z, p), rfl⟩
  | _ => exact none
noncomputable def onSub (x : Expr) (f : Expr → Expr → Bool) : Bool := on2 (aSub x) (fun q => q.1.1) (fun q => q.1.2.1) f
noncomputable def aSlice (x : Expr) : Option (Is (fun q : (Option Expr) × (Option Expr) × (Option Expr) × Pos => Expr.Slice (q.1) (q.2.1) (q.2.2.1) (q.2.2.2)) x) := by cases x with
  | Slice y z u p => exact some ⟨(y, z, u, p), rfl⟩
  | _ => exact none
noncomputable def onSlice (x : Expr) (f : (Option Expr) → (Option Expr) → (Option Expr) → Bool) : Bool := on3 (aSlice x) (fun q => q.1.1) (fun q => q.1.2.1) (fun q => q.1.2.2.1) f
noncomputable def aCall (x : Expr) : Option (Is (fun q : Expr × (List Expr) × (List Keyword) × Pos => Expr.Call (q.1) (q.2.1) (q.2.2.1) (q.2.2.2)) x) := by cases x with
  | Call g xs ks p => exact some ⟨(g, xs, ks, p), rfl⟩
  | _ => exact none
noncomputable def onCall (x : Expr) (f : Expr → (List Expr) → (List Keyword) → Pos → Bool) : Bool := on4 (aCall x) (fun q => q.1.1) (fun q => q.1.2.1) (fun q => q.1.2.2.1) (fun q => q.1.2.2.2) f
noncomputable def aAttr (x : Expr) : Option (Is (fun q : Expr × Str × Pos => Expr.Attribute (q.1) (q.2.1) (q.2.2)) x) := by cases x with
  | Attribute o n p => exact some ⟨(o, n, p), rfl⟩
  | _ => exact none
noncomputable def onAttr (x : Expr) (f : Expr → Str → Pos → Bool) : Bool := on3 (aAttr x) (fun q => q.1.1) (fun q => q.1.2.1) (fun q => q.1.2.2) f
noncomputable def aLC (x : Expr) : Option (Is (fun q : Expr × (List Comprehension) × Scope × Pos => Expr.ListComp (q.1) (q.2.1) (q.2.2.1) (q.2.2.2)) x) := by cases x with
  | ListComp y gs sc p => exact some ⟨(y, gs, sc, p), rfl⟩
  | _ => exact none
noncomputable def onLC (x : Expr) (f : Expr → (List Comprehension) → Scope → Bool) : Bool := on3 (aLC x) (fun q => q.1.1) (fun q => q.1.2.1) (fun q => q.1.2.2.1) f
theorem onConst_inv {x : Expr} {f : Const → Bool} (h : onConst x f = true) : ∃ v k p, x = .Constant v k p ∧ f v = true := let ⟨q, h⟩ := on1_inv h; ⟨_, _, _, q.2, h⟩
theorem onConst_elim {x : Expr} {f : Const → Bool} {P : Expr → Prop} (h : onConst x f = true) (kk_ : ∀ v k p, f v = true → P (.Constant v k p)) : P x := by
  obtain ⟨v, k, p, rfl, c_⟩ := onConst_inv h; exact kk_ _ _ _ c_
theorem onName_inv {x : Expr} {f : Str → Bool} (h : onName x f = true) : ∃ y p, x = .Name y p ∧ f y = true := let ⟨q, h⟩ := on1_inv h; ⟨_, _, q.2, h⟩
theorem onName_elim {x : Expr} {f : Str → Bool} {P : Expr → Prop} (h : onName x f = true) (kk_ : ∀ y p, f y = true → P (.Name y p)) : P x := by
  obtain ⟨y, p, rfl, c_⟩ := onName_inv h; exact kk_ _ _ c_
theorem onBin_inv {x : Expr} {f : Expr → Operator → Expr → Bool} (h : onBin x f = true) : ∃ l o r p, x = .BinOp l o r p ∧ f l o r = true := let ⟨q, h⟩ := on3_inv h; ⟨_, _, _, _, q.2, h⟩
theorem onBin_elim {x : Expr} {f : Expr → Operator → Expr → Bool} {P : Expr → Prop} (h : onBin x f = true) (kk_ : ∀ l o r p, f l o r = true → P (.BinOp l o r p)) : P x := by
  obtain ⟨l, o, r, p, rfl, c_⟩ := onBin_inv h; exact kk_ _ _ _ _ c_
theorem onUn_inv {x : Expr} {f : UnaryOp → Expr → Bool} (h : onUn x f = true) : ∃ o y p, x = .UnaryOp o y p ∧ f o y = true := let ⟨q, h⟩ := on2_inv h; ⟨_, _, _, q.2, h⟩
theorem onUn_elim {x : Expr} {f : UnaryOp → Expr → Bool} {P : Expr → Prop} (h : onUn x f = true) (kk_ : ∀ o y p, f o y = true → P (.UnaryOp o y p)) : P x := by
  obtain ⟨o, y, p, rfl, c_⟩ := onUn_inv h; exact kk_ _ _ _ c_
theorem onBool_inv {x : Expr} {f : BoolOp → (List Expr) → Pos → Bool} (h : onBool x f = true) : ∃ o ys p, x = .BoolOp o ys p ∧ f o ys p = true := let ⟨q, h⟩ := on3_inv h; ⟨_, _, _, q.2, h⟩
theorem onBool_elim {x : Expr} {f : BoolOp → (List Expr) → Pos → Bool} {P : Expr → Prop} (h : onBool x f = true) (kk_ : ∀ o ys p, f o ys p = true → P (.BoolOp o ys p)) : P x := by
  obtain ⟨o, ys, p, rfl, c_⟩ := onBool_inv h; exact kk_ _ _ _ c_
theorem onIf_inv {x : Expr} {f : Expr → Expr → Expr → Bool} (h : onIf x f = true) : ∃ y z u p, x = .IfExp y z u p ∧ f y z u = true := let ⟨q, h⟩ := on3_inv h; ⟨_, _, _, _, q.2, h⟩
theorem onIf_elim {x : Expr} {f : Expr → Expr → Expr → Bool} {P : Expr → Prop} (h : onIf x f = true) (kk_ : ∀ y z u p, f y z u = true → P (.IfExp y z u p)) : P x := by
  obtain ⟨y, z, u, p, rfl, c_⟩ := onIf_inv h; exact kk_ _ _ _ _ c_
theorem onList_inv {x : Expr} {f : (List Expr) → Bool} (h : onList x f = true) : ∃ xs p, x = .List xs p ∧ f xs = true := let ⟨q, h⟩ := on1_inv h; ⟨_, _, q.2, h⟩
theorem onList_elim {x : Expr} {f : (List Expr) → Bool} {P : Expr → Prop} (h : onList x f = true) (kk_ : ∀ xs p, f xs = true → P (.List xs p)) : P x := by
  obtain ⟨xs, p, rfl, c_⟩ := onList_inv h; exact kk_ _ _ c_
theorem onTup_inv {x : Expr} {f : (List Expr) → Bool} (h : onTup x f = true) : ∃ xs k p, x = .Tuple xs k p ∧ f xs = true := let ⟨q, h⟩ := on1_inv h; ⟨_, _, _, q.2, h⟩
theorem onTup_elim {x : Expr} {f : (List Expr) → Bool} {P : Expr → Prop} (h : onTup x f = true) (kk_ : ∀ xs k p, f xs = true → P (.Tuple xs k p)) : P x := by
  obtain ⟨xs, k, p, rfl, c_⟩ := onTup_inv h; exact kk_ _ _ _ c_
theorem onCmp_inv {x : Expr} {f : Expr → (List CmpOp) → (List Expr) → Bool} (h : onCmp x f = true) : ∃ l o r p, x = .Compare l o r p ∧ f l o r = true := let ⟨q, h⟩ := on3_inv h; ⟨_, _, _, _, q.2, h⟩
theorem onCmp_elim {x : Expr} {f : Expr → (List CmpOp) → (List Expr) → Bool} {P : Expr → Prop} (h : onCmp x f = true) (kk_ : ∀ l o r p, f l o r = true → P (.Compare l o r p)) : P x := by
  obtain ⟨l, o, r, p, rfl, c_⟩ := onCmp_inv h; exact kk_ _ _ _ _ c_
theorem onSub_inv {x : Expr} {f : Expr → Expr → Bool} (h : onSub x f = true) : ∃ y z p, x = .Subscript y z p ∧ f y z = true := let ⟨q, h⟩ := on2_inv h; ⟨_, _, _, q.2, h⟩
theorem onSub_elim {x : Expr} {f : Expr → Expr → Bool} {P : Expr → Prop} (h : onSub x f = true) (kk_ : ∀ y z p, f y z = true → P (.Subscript y z p)) : P x := by
  obtain ⟨y, z, p, rfl, c_⟩ := onSub_inv h; exact kk_ _ _ _ c_
theorem onSlice_inv {x : Expr} {f : (Option Expr) → (Option Expr) → (Option Expr) → Bool} (h : onSlice x f = true) : ∃ y z u p, x = .Slice y z u p ∧ f y z u = true := let ⟨q, h⟩ := on3_inv h; ⟨_, _, _, _, q.2, h⟩
theorem onSlice_elim {x : Expr} {f : (Option Expr) → (Option Expr) → (Option Expr) → Bool} {P : Expr → Prop} (h : onSlice x f = true) (kk_ : ∀ y z u p, f y z u = true → P (.Slice y z u p)) : P x := by
  obtain ⟨y, z, u, p, rfl, c_⟩ := onSlice_inv h; exact kk_ _ _ _ _ c_
theorem onCall_inv {x : Expr} {f : Expr → (List Expr) → (List Keyword) → Pos → Bool} (h : onCall x f = true) : ∃ g xs ks p, x = .Call g xs ks p ∧ f g xs ks p = true := let ⟨q, h⟩ := on4_inv h; ⟨_, _, _, _, q.2, h⟩
theorem onCall_elim {x : Expr} {f : Expr → (List Expr) → (List Keyword) → Pos → Bool} {P : Expr → Prop} (h : onCall x f = true) (kk_ : ∀ g xs ks p, f g xs ks p = true → P (.Call g xs ks p)) : P x := by
  obtain ⟨g, xs, ks, p, rfl, c_⟩ := onCall_inv h; exact kk_ _ _ _ _ c_
theorem onAttr_inv {x : Expr} {f : Expr → Str → Pos → Bool} (h : onAttr x f = true) : ∃ o n p, x = .Attribute o n p ∧ f o n p = true := let ⟨q, h⟩ := on3_inv h; ⟨_, _, _, q.2, h⟩
theorem onAttr_elim {x : Expr} {f : Expr → Str → Pos → Bool} {P : Expr → Prop} (h : onAttr x f = true) (kk_ : ∀ o n p, f o n p = true → P (.Attribute o n p)) : P x := by
  obtain ⟨o, n, p, rfl, c_⟩ := onAttr_inv h; exact kk_ _ _ _ c_
theorem onLC_inv {x : Expr} {f : Expr → (List Comprehension) → Scope → Bool} (h : onLC x f = true) : ∃ y gs sc p, x = .ListComp y gs sc p ∧ f y gs sc = true := let ⟨q, h⟩ := on3_inv h; ⟨_, _, _, _, q.2, h⟩
theorem onLC_elim {x : Expr} {f : Expr → (List Comprehension) → Scope → Bool} {P : Expr → Prop} (h : onLC x f = true) (kk_ : ∀ y gs sc p, f y gs sc = true → P (.ListComp y gs sc p)) : P x := by
  obtain ⟨y, gs, sc, p, rfl, c_⟩ := onLC_inv h; exact kk_ _ _ _ _ c_
noncomputable def one {α : Type} : List α → (α → Bool) → Bool
  | [x], f => f x
  | _, _ => false
noncomputable def two {α : Type} : List α → (α → α → Bool) → Bool
  | [x, y], f => f x y
  | _, _ => false
noncomputable def three {α : Type} : List α → (α → α → α → Bool) → Bool
  | [x, y, z], f => f x y z
  | _, _ => false
noncomputable def some1 {α : Type} : List α → Bool
  | _ :: _ => true
  | _ => false
/-- a call of a name, by place alone -/
noncomputable def onCallN (x : Expr) (f : Str → List Expr → Bool) : Bool := onCall x fun g xs ks _ => ks.isEmpty && onName g fun y => f y xs
section
variable {x : Expr}
theorem one_inv {α : Type} {xs : List α} {f : α → Bool} (h : one xs f = true) : ∃ x, xs = [x] ∧ f x = true := by
  rcases xs with _ | ⟨a, _ | ⟨b, r⟩⟩
  · exact ff h
  · exact ⟨_, rfl, h⟩
  · exact ff h
theorem one_elim {α : Type} {xs : List α} {f : α → Bool} {P : List α → Prop} (h : one xs f = true) (kk_ : ∀ x, f x = true → P ([x])) : P xs := by
  obtain ⟨x, rfl, c_⟩ := one_inv h; exact kk_ _ c_
theorem two_inv {α : Type} {xs : List α} {f : α → α → Bool} (h : two xs f = true) : ∃ x y, xs = [x, y] ∧ f x y = true := by
  rcases xs with _ | ⟨a, _ | ⟨b, _ | ⟨e, r⟩⟩⟩
  · exact ff h
  · exact ff h
  · exact ⟨_, _, rfl, h⟩
  · exact ff h
theorem two_elim {α : Type} {xs : List α} {f : α → α → Bool} {P : List α → Prop} (h : two xs f = true) (kk_ : ∀ x y, f x y = true → P ([x, y])) : P xs := by
  obtain ⟨x, y, rfl, c_⟩ := two_inv h; exact kk_ _ _ c_
theorem three_inv {α : Type} {xs : List α} {f : α → α → α → Bool} (h : three xs f = true) : ∃ x y z, xs = [x, y, z] ∧ f x y z = true := by
  rcases xs with _ | ⟨a, _ | ⟨b, _ | ⟨e, _ | ⟨g, r⟩⟩⟩⟩
  · exact ff h
  · exact ff h
  · exact ff h
  · exact ⟨_, _, _, rfl, h⟩
  · exact ff h
theorem three_elim {α : Type} {xs : List α} {f : α → α → α → Bool} {P : List α → Prop} (h : three xs f = true) (kk_ : ∀ x y z, f x y z = true → P ([x, y, z])) : P xs := by
  obtain ⟨x, y, z, rfl, c_⟩ := three_inv h; exact kk_ _ _ _ c_
theorem some1_inv {α : Type} {xs : List α} (h : some1 xs = true) : ∃ x r, xs = x :: r := by
  cases xs with
  | nil => exact ff h
  | cons a r => exact ⟨_, _, rfl⟩
theorem onCallN_inv {f : Str → List Expr → Bool} (h : onCallN x f = true) : ∃ y p xs q, x = .Call (.Name y p) xs [] q ∧ f y xs = true := by
  obtain ⟨g, xs, ks, q, rfl, k⟩ := onCall_inv h
  obtain ⟨h1, h2⟩ := (Bool.and_eq_true _ _).mp k
  obtain ⟨y, p, rfl, k3⟩ := onName_inv h2
  cases ks with
  | nil => exact ⟨_, _, _, _, rfl, k3⟩
  | cons => exact ff h1
theorem onCallN_elim {f : Str → List Expr → Bool} {P : Expr → Prop} (h : onCallN x f = true) (kk_ : ∀ y p xs q, f y xs = true → P (.Call (.Name y p) xs [] q)) : P x := by
  obtain ⟨y, p, xs, q, rfl, c_⟩ := onCallN_inv h; exact kk_ _ _ _ _ c_
end

noncomputable def chkN (c : Sc) (i : Nat) (e : Expr) : Bool := onName e fun x => isVar c x i && canStore c x
noncomputable def chkNs (c : Sc) : List Nat → List Expr → Bool
  | [], [] => true
  | i :: is, x :: xs => chkN c i x && chkNs c is xs
  | _, _ => false
noncomputable def chkTg (c : Sc) : Tg → Expr → Bool
  | .var i, x => chkN c i x
  | .tup is, x => onTup x fun xs => chkNs c is xs && decide is.Nodup && !c.hot
noncomputable def isStrE (x : E) : Bool := by cases x with
  | str => exact true
  | _ => exact false
noncomputable def optE (f : Expr → Bool) (b : Bool) : Option Expr → Bool
  | some x => f x
  | none => b
/-- two or more, by and / or -/
noncomputable def andT (f g : Expr → Bool) (o : BoolOp) : List Expr → Pos → Bool
  | [y, z], _ => f y && g z
  | [y, z, u], p => f y && g (.BoolOp o [z, u] p)
  | [y, z, u, v], p => f y && g (.BoolOp o [z, u, v] p)
  | [y, z, u, v, t], p => f y && g (.BoolOp o [z, u, v, t] p)
  | _, _ => false
theorem andT_inv {f g : Expr → Bool} {o : BoolOp} {ys : List Expr} {p : Pos} (h : andT f g o ys p = true) : (∃ y z, ys = [y, z] ∧ f y = true ∧ g z = true) ∨ (∃ y z u r, ys = y :: z :: u :: r ∧ f y = true ∧ g (.BoolOp o (z :: u :: r) p) = true) := by
  rcases ys with _ | ⟨y, _ | ⟨z, _ | ⟨u, _ | ⟨v, _ | ⟨t, _ | ⟨w, r⟩⟩⟩⟩⟩⟩
  · exact ff h
  · exact ff h
  · exact .inl ⟨_, _, rfl, (Bool.and_eq_true _ _).mp h⟩
  · exact .inr ⟨_, _, _, _, rfl, (Bool.and_eq_true _ _).mp h⟩
  · exact .inr ⟨_, _, _, _, rfl, (Bool.and_eq_true _ _).mp h⟩
  · exact .inr ⟨_, _, _, _, rfl, (Bool.and_eq_true _ _).mp h⟩
  · exact ff h
noncomputable def baseX (x : Expr) : Bool := by cases x with
  | Name => exact true
  | Subscript => exact true
  | _ => exact false
noncomputable def attrB (x : Expr) : Bool := by cases x with
  | Name => exact true
  | Call f xs ks p => exact some1 xs
  | _ => exact false
mutual
noncomputable def chkE (c : Sc) : E → Expr → Bool
  | .none, x => onConst x fun v => decide (v = .none)
  | .bool b, x => onConst x fun v => decide (v = .bool b)
  | .int i, x => onConst x fun v => decide (v = .int i)
  | .str s, x => onConst x fun v => decide (v = .str s) && decide (s.length ≤ sizeLine) && s.cps.all (· < 0x110000)
  | .var i, x => onName x fun y => isVar c y i
  | .glob g, x => onName x fun y => isGlob c y g
  | .bin op a b, x => onBin x fun l o r => decide (o = opOf op) && chkE c a l && chkE c b r
  | .neg a, x => onUn x fun o y => decide (o = .USub) && chkE c a y
  | .not a, x => onUn x fun o y => decide (o = .Not) && chkE c a y
  | .and a b, x => onBool x fun o ys p => decide (o = .And) && andT (chkE c a) (chkE c b) .And ys p
  | .or a b, x => onBool x fun o ys p => decide (o = .Or) && andT (chkE c a) (chkE c b) .Or ys p
  | .ite t a b, x => onIf x fun y z u => chkE c t y && chkE c a z && chkE c b u
  | .list es, x => onList x fun xs => chkEs c es xs
  | .tup es, x => onTup x fun xs => chkEs c es xs
  | .cmp a ch, x => onCmp x fun l ops rs => !lastMarks ops rs && chkE c a l && chkCh c ch ops rs
  | .sub a i, x => onSub x fun y z => chkE c a y && chkE c i z && plainX z
  | .slice a lo hi, x => onSub x fun y z => onSlice z fun l h s => s.isNone && chkE c a y && optE (chkE c lo) (isNoneE lo) l && optE (chkE c hi) (isNoneE hi) h
  | .call f es, x => onCallN x fun y xs => some1 xs && isGlob c y f && c.fns.contains f && chkEs c es xs
  | .isinst a t, x => onCallN x fun y xs => two xs fun z n => onName n fun u => isGlob c y "isinstance" && noStar z && chkE c a z && isGlob c u (tyName t) && plainTy t
  | .len a, x => onCallN x fun y xs => one xs fun z => isGlob c y "len" && noStar z && chkE c a z
  | .sum a, x => onCallN x fun y xs => one xs fun z => isGlob c y "sum" && noStar z && chkE c a z
  | .max2 a b, x => onCallN x fun y xs => two xs fun z u => isGlob c y "max" && noStar z && noStar u && chkE c a z && chkE c b u
  | .min2 a b, x => onCallN x fun y xs => two xs fun z u => isGlob c y "min" && noStar z && noStar u && chkE c a z && chkE c b u
  | .maxl a, x => false
  | .maxd a d, x => onCall x fun g xs ks _ => one xs fun z => one ks fun kw => onName g fun y => isGlob c y "max" && noStar z && decide (kw.arg = some (Str.ofString "default")) && chkE c a z && chkE c d kw.value
  | .strOf a, x => false
  | .intOf a, x => onCallN x fun y xs => one xs fun z => isGlob c y "int" && noStar z && chkE c a z
  | .tupOf a, x => false
  | .listOf it, x => onCallN x fun y xs => one xs fun z => isGlob c y "list" && noStar z && listable it && chkI c it z && !c.hot
  | .join s a, x => onCall x fun g xs ks pos => ks.isEmpty && one xs fun z => onAttr g fun o n ap => decide (n = Str.ofString "join") && noStar z && ap.endLine == pos.line && chkE c s o && isStrE s && chkE c a z
  | .get d k v, x => false
  | .dict0, x => false
  | .attr a n, x => onAttr x fun o m _ => decide (m = Str.ofString n) && attrB o && chkE c a o
  | .new f es, x => onCallN x fun y xs => some1 xs && isGlob c y f && chkEs c es xs
  | .comp elt t it, x => onLC x fun y gs sc => one gs fun g => g.ifs.isEmpty && decide (g.is_async = 0) && (match tgNames g.target with
      | some xs => tgIs c.used t xs && tableOk c xs sc && chkTg (inner c xs sc.names) t g.target && !isSetX g.iter && ezOk it g.target && chkI c it g.iter && chkE (inner c xs sc.names) elt y
      | none => false)
  | .compIf elt t it cond, x => false
  | .isexc a t, x => false
  | .only a, x => false
noncomputable def chkEs (c : Sc) : Es → List Expr → Bool
  | .nil, xs => xs.isEmpty
  | .cons e es, xs => (match xs with
    | x :: r => noStar x && chkE c e x && chkEs c es r
    | [] => false)
noncomputable def chkCh (c : Sc) : Ch → List CmpOp → List Expr → Bool
  | .one op e, ops, xs => one ops fun o => one xs fun x => decide (o = copOf op) && chkE c e x
  | .more op e ch, ops, xs => (match ops, xs with
    | o :: ops, x :: xs => some1 ops && some1 xs && decide (o = copOf op) && chkE c e x && chkCh c ch ops xs
    | _, _ => false)
noncomputable def chkI (c : Sc) : It → Expr → Bool
  | .seq e, x => chkE c e x
  | .rev e, x => onCallN x fun y xs => one xs fun z => isGlob c y "reversed" && noStar z && chkE c e z
  | .range1 a, x => onCallN x fun y xs => one xs fun z => isGlob c y "range" && noStar z && chkE c a z
  | .range2 a b, x => false
  | .range3 a b d, x => onCallN x fun y xs => three xs fun z u v => isGlob c y "range" && noStar z && noStar u && noStar v && chkE c a z && chkE c b u && chkE c d v
  | .enum a, x => false
  | .keys e, x => false
  | .zip a b, x => false
end

noncomputable def isCompE (x : E) : Bool := by cases x with
  | comp => exact true
  | compIf => exact true
  | _ => exact false
noncomputable def isComp (x : Expr) : Bool := by cases x with
  | ListComp => exact true
  | SetComp => exact true
  | DictComp => exact true
  | _ => exact false
/-- values that the compiler does not fold, or surely does -/
noncomputable def tupOk (x : Expr) : Bool := by cases x with
  | Tuple vs _ _ => exact !(vs.all (constantsAlone 8)) || vs.all (foldedForSure 8)
  | _ => exact true
noncomputable def isNameX (x : Expr) : Bool := by cases x with
  | Name => exact true
  | _ => exact false
theorem isNameX_inv {x : Expr} (h : isNameX x = true) : ∃ y p, x = .Name y p := by cases x <;> first | exact ff h | exact ⟨_, _, rfl⟩
/-! shapes of statements -/
noncomputable def saExpr (x : Stmt) : Option (Is (fun q : Expr × Pos => Stmt.Expr (q.1) (q.2)) x) := by cases x with
  | Expr y p => exact some ⟨(y, p), rfl⟩
  | _ => exact none
noncomputable def onExpr (x : Stmt) (f : Expr → Bool) : Bool := on1 (saExpr x) (fun q => q.1.1) f
noncomputable def saIfS (x : Stmt) : Option (Is (fun q : Expr × (List Stmt) × (List Stmt) × Pos => Stmt.If (q.1) (q.2.1) (q.2.2.1) (q.2.2.2)) x) := by cases x with
  | If y a b p => exact some ⟨(y, a, b, p), rfl⟩
  | _ => exact none
noncomputable def onIfS (x : Stmt) (f : Expr → (List Stmt) → (List Stmt) → Bool) : Bool := on3 (saIfS x) (fun q => q.1.1) (fun q => q.1.2.1) (fun q => q.1.2.2.1) f
noncomputable def saAssign (x : Stmt) : Option (Is (fun q : (List Expr) × Expr × Pos => Stmt.Assign (q.1) (q.2.1) (q.2.2)) x) := by cases x with
  | Assign ts y p => exact some ⟨(ts, y, p), rfl⟩
  | _ => exact none
noncomputable def kAssign (x : Stmt) (f : (List Expr) → Expr → Bool) : Bool := on2 (saAssign x) (fun q => q.1.1) (fun q => q.1.2.1) f
noncomputable def saWhile (x : Stmt) : Option (Is (fun q : Expr × (List Stmt) × (List Stmt) × Pos => Stmt.While (q.1) (q.2.1) (q.2.2.1) (q.2.2.2)) x) := by cases x with
  | While y a b p => exact some ⟨(y, a, b, p), rfl⟩
  | _ => exact none
noncomputable def kWhile (x : Stmt) (f : Expr → (List Stmt) → (List Stmt) → Bool) : Bool := on3 (saWhile x) (fun q => q.1.1) (fun q => q.1.2.1) (fun q => q.1.2.2.1) f
noncomputable def saFor (x : Stmt) : Option (Is (fun q : Expr × Expr × (List Stmt) × (List Stmt) × Pos => Stmt.For (q.1) (q.2.1) (q.2.2.1) (q.2.2.2.1) (q.2.2.2.2)) x) := by cases x with
  | For t y a b p => exact some ⟨(t, y, a, b, p), rfl⟩
  | _ => exact none
noncomputable def kFor (x : Stmt) (f : Expr → Expr → (List Stmt) → (List Stmt) → Bool) : Bool := on4 (saFor x) (fun q => q.1.1) (fun q => q.1.2.1) (fun q => q.1.2.2.1) (fun q => q.1.2.2.2.1) f
noncomputable def saRet (x : Stmt) : Option (Is (fun q : (Option Expr) × Pos => Stmt.Return (q.1) (q.2)) x) := by cases x with
  | Return y p => exact some ⟨(y, p), rfl⟩
  | _ => exact none
noncomputable def kRet (x : Stmt) (f : (Option Expr) → Bool) : Bool := on1 (saRet x) (fun q => q.1.1) f
noncomputable def onAssign (x : Stmt) (f : Expr → Expr → Bool) : Bool := kAssign x fun ts y => one ts fun t => f t y
noncomputable def onWhile (x : Stmt) (f : Expr → List Stmt → Bool) : Bool := kWhile x fun y a b => b.isEmpty && f y a
noncomputable def onFor (x : Stmt) (f : Expr → Expr → List Stmt → Bool) : Bool := kFor x fun t y a b => b.isEmpty && f t y a
noncomputable def onRet (x : Stmt) (f : Expr → Bool) : Bool := kRet x fun y => optE f false y
theorem onExpr_inv {x : Stmt} {f : Expr → Bool} (h : onExpr x f = true) : ∃ y p, x = .Expr y p ∧ f y = true := let ⟨q, h⟩ := on1_inv h; ⟨_, _, q.2, h⟩
theorem onExpr_elim {x : Stmt} {f : Expr → Bool} {P : Stmt → Prop} (h : onExpr x f = true) (kk_ : ∀ y p, f y = true → P (.Expr y p)) : P x := by
  obtain ⟨y, p, rfl, c_⟩ := onExpr_inv h; exact kk_ _ _ c_
theorem onIfS_inv {x : Stmt} {f : Expr → (List Stmt) → (List Stmt) → Bool} (h : onIfS x f = true) : ∃ y a b p, x = .If y a b p ∧ f y a b = true := let ⟨q, h⟩ := on3_inv h; ⟨_, _, _, _, q.2, h⟩
theorem onIfS_elim {x : Stmt} {f : Expr → (List Stmt) → (List Stmt) → Bool} {P : Stmt → Prop} (h : onIfS x f = true) (kk_ : ∀ y a b p, f y a b = true → P (.If y a b p)) : P x := by
  obtain ⟨y, a, b, p, rfl, c_⟩ := onIfS_inv h; exact kk_ _ _ _ _ c_
theorem kAssign_inv {x : Stmt} {f : (List Expr) → Expr → Bool} (h : kAssign x f = true) : ∃ ts y p, x = .Assign ts y p ∧ f ts y = true := let ⟨q, h⟩ := on2_inv h; ⟨_, _, _, q.2, h⟩
theorem kWhile_inv {x : Stmt} {f : Expr → (List Stmt) → (List Stmt) → Bool} (h : kWhile x f = true) : ∃ y a b p, x = .While y a b p ∧ f y a b = true := let ⟨q, h⟩ := on3_inv h; ⟨_, _, _, _, q.2, h⟩
theorem kFor_inv {x : Stmt} {f : Expr → Expr → (List Stmt) → (List Stmt) → Bool} (h : kFor x f = true) : ∃ t y a b p, x = .For t y a b p ∧ f t y a b = true := let ⟨q, h⟩ := on4_inv h; ⟨_, _, _, _, _, q.2, h⟩
theorem kRet_inv {x : Stmt} {f : (Option Expr) → Bool} (h : kRet x f = true) : ∃ y p, x = .Return y p ∧ f y = true := let ⟨q, h⟩ := on1_inv h; ⟨_, _, q.2, h⟩
noncomputable def saRaise (x : Stmt) : Option (Is (fun q : Expr × Pos => Stmt.Raise (some q.1) none q.2) x) := by cases x with
  | Raise e c p => exact (match e, c with
    | some y, none => some ⟨(y, p), rfl⟩
    | _, _ => none)
  | _ => exact none
noncomputable def onRaise (x : Stmt) (f : Expr → Bool) : Bool := on1 (saRaise x) (fun q => q.1.1) f
section
variable {x : Stmt}
theorem onAssign_inv {f : Expr → Expr → Bool} (h : onAssign x f = true) : ∃ t y p, x = .Assign [t] y p ∧ f t y = true := by
  obtain ⟨ts, y, p, rfl, k⟩ := kAssign_inv h
  obtain ⟨t, rfl, k3⟩ := one_inv k
  exact ⟨_, _, _, rfl, k3⟩
theorem onAssign_elim {f : Expr → Expr → Bool} {P : Stmt → Prop} (h : onAssign x f = true) (kk_ : ∀ t y p, f t y = true → P (.Assign [t] y p)) : P x := by
  obtain ⟨t, y, p, rfl, c_⟩ := onAssign_inv h; exact kk_ _ _ _ c_
theorem onWhile_inv {f : Expr → List Stmt → Bool} (h : onWhile x f = true) : ∃ y a p, x = .While y a [] p ∧ f y a = true := by
  obtain ⟨y, a, b, p, rfl, k⟩ := kWhile_inv h
  obtain ⟨h1, h2⟩ := (Bool.and_eq_true _ _).mp k
  cases b with
  | nil => exact ⟨_, _, _, rfl, h2⟩
  | cons => exact ff h1
theorem onWhile_elim {f : Expr → List Stmt → Bool} {P : Stmt → Prop} (h : onWhile x f = true) (kk_ : ∀ y a p, f y a = true → P (.While y a [] p)) : P x := by
  obtain ⟨y, a, p, rfl, c_⟩ := onWhile_inv h; exact kk_ _ _ _ c_
theorem onFor_inv {f : Expr → Expr → List Stmt → Bool} (h : onFor x f = true) : ∃ t y a p, x = .For t y a [] p ∧ f t y a = true := by
  obtain ⟨t, y, a, b, p, rfl, k⟩ := kFor_inv h
  obtain ⟨h1, h2⟩ := (Bool.and_eq_true _ _).mp k
  cases b with
  | nil => exact ⟨_, _, _, _, rfl, h2⟩
  | cons => exact ff h1
theorem onFor_elim {f : Expr → Expr → List Stmt → Bool} {P : Stmt → Prop} (h : onFor x f = true) (kk_ : ∀ t y a p, f t y a = true → P (.For t y a [] p)) : P x := by
  obtain ⟨t, y, a, p, rfl, c_⟩ := onFor_inv h; exact kk_ _ _ _ _ c_
theorem onRet_inv {f : Expr → Bool} (h : onRet x f = true) : ∃ y p, x = .Return (some y) p ∧ f y = true := by
  obtain ⟨y, p, rfl, k⟩ := kRet_inv h
  cases y with
  | none => exact ff k
  | some y => exact ⟨_, _, rfl, k⟩
theorem onRet_elim {f : Expr → Bool} {P : Stmt → Prop} (h : onRet x f = true) (kk_ : ∀ y p, f y = true → P (.Return (some y) p)) : P x := by
  obtain ⟨y, p, rfl, c_⟩ := onRet_inv h; exact kk_ _ _ c_
end

mutual
noncomputable def chkA (c : Sc) : A → Expr → Bool
  | .pure e, x => chkE c e x
  | .thaw e, x => isFresh e && chkE c e x
  | .list as, x => onList x fun xs => chkAs c as xs
  | .dict, x => false
  | .new f es, x => onCallN x fun y xs => some1 xs && isGlob c y f && chkEs c es xs
  | .callO _ _, _ => false
noncomputable def chkAs (c : Sc) : As → List Expr → Bool
  | .nil, xs => xs.isEmpty
  | .cons a as, xs => (match xs with
    | x :: r => noStar x && chkA c a x && chkAs c as r
    | [] => false)
end

noncomputable def isCif (e : E) : Bool := by cases e with
  | compIf => exact true
  | _ => exact false
/-- targets of assignments -/
noncomputable def tgAsg (t : Tg) : Bool := by cases t with
  | var => exact true
  | tup => exact true
/-- comprehensions that a name is set to -/
noncomputable def okOwn (a : A) : Bool := by cases a with
  | pure e => exact !isCif e
  | thaw e => exact !isCif e
  | _ => exact true
mutual
noncomputable def chkS (c : Sc) : S → Stmt → Bool
  | .expr e, x => onExpr x fun y => chkE c e y && !isComp y
  | .assign t e, x => onAssign x fun tg y => chkTg c t tg && tupOk y && chkE c e y && okOwn (.pure e) && tgAsg t
  | .own i a, x => onAssign x fun tg y => chkN c i tg && chkA c a y && okOwn a
  | .append e a, x => onExpr x fun y => onCall y fun g xs ks cp => ks.isEmpty && one xs fun z => onAttr g fun o n ap => decide (n = Str.ofString "append") && ap.endLine == cp.line && baseX o && noStar z && chkE c e o && chkA c a z
  | .pop t e, x => onAssign x fun tg y => onCall y fun g xs ks cp => ks.isEmpty && xs.isEmpty && onAttr g fun o n ap => chkTg c t tg && decide (n = Str.ofString "pop") && ap.endLine == cp.line && isNameX o && chkE c e o
  | .setitem e k v, x => onAssign x fun tg y => onSub tg fun o i => chkE c e o && chkE c k i && chkE c v y && !isComp y
  | .setkey e k v, x => false
  | .setlast e v, x => onAssign x fun tg y => onSub tg fun o i => chkE c e o && chkE c (.neg (.int 1)) i && chkE c v y && !isComp y
  | .setattr e n v, x => onAssign x fun tg y => onAttr tg fun o m _ => decide (m = Str.ofString n) && isNameX o && chkE c e o && chkE c v y && !isComp y
  | .ite t a b, x => onIfS x fun y bs os => chkE c t y && chkB c a bs && chkB c b os
  | .while t b, x => onWhile x fun y bs => chkE c t y && chkB c b bs
  | .for t it b, x => onFor x fun tg y bs => chkTg c t tg && chkI c it y && !isSetX y && ezOk it tg && chkB c b bs && !c.dead
  | .ret e, x => onRet x fun y => chkE c e y
  | .retO e, x => false
  | .raise _ _, _ => true
  | .rz k m, x => false
  | .tryEx e k i h, x => false
noncomputable def chkB (c : Sc) : Bl → List Stmt → Bool
  | .nil, xs => xs.isEmpty
  | .cons s b, xs => (match xs with
    | x :: r => chkS c s x && chkB c b r
    | [] => false)
end

noncomputable def fnSc (fns xs : List String) (hot : Bool) (hots : List String) (fn : Fn) (d : DefRec) : Sc := ⟨(fn.vars.map Str.ofString).zip (List.range fn.vars.length), fn.vars.length, d.scope.names, fns, xs, hot, hots, false⟩
noncomputable def plainParams (a : Arguments) : Bool := a.posonlyargs.isEmpty && a.vararg.isNone && a.kwonlyargs.isEmpty && a.kwarg.isNone && a.defaults.isEmpty && a.kw_defaults.isEmpty
noncomputable def chkFn (fns xs : List String) (hot : Bool) (hots : List String) (fn : Fn) (d : DefRec) : Bool :=
  plainParams d.params && decide (d.params.args.map (·.arg) = (fn.vars.map Str.ofString).take fn.np) && decide (fn.np ≤ fn.vars.length) && decide (d.params.args.length = fn.np) &&
  decide (fn.vars.map Str.ofString).Nodup && (fn.vars.map Str.ofString).all (fun x => canStore (fnSc fns xs hot hots fn d) x && !(x == ("__classdict__" : Str))) && decide (d.scope.kind = .function) && !d.scope.isGenerator && !d.scope.isCoroutine &&
  d.scope.names.all (fun p => !decide (p.2 = .free)) && decide (d.scope.names.map (·.1)).Nodup && decide (fn.vars.length ≤ fn.nv) && chkB (fnSc fns xs hot hots fn d) fn.body d.body

noncomputable def iniC : V → Const → Bool
  | .none, k => decide (k = .none)
  | .int i, k => decide (k = .int i)
  | _, _ => false
noncomputable def chkIv (names : List Str) : Ini → Expr → Bool
  | .arg i, y => onName y fun z => decide (names[i + 1]? = some z)
  | .val v, y => onConst y fun k => iniC v k
noncomputable def chkFs (self : Str) (names : List Str) : List (String × Ini) → List Stmt → Bool
  | [], xs => xs.isEmpty
  | f :: fs, xs => (match xs with
    | x :: r => onAssign x (fun tg y => onAttr tg fun o a _ => onName o (fun z => decide (z = self)) && decide (a = Str.ofString f.1) && chkIv names f.2 y) && chkFs self names fs r
    | [] => false)
noncomputable def chkIni (n : Nat) (fs : List (String × Ini)) (params : Arguments) (body : List Stmt) (scope : Scope) : Bool :=
  plainParams params && decide (params.args.length = n + 1) && decide (params.args.map (·.arg)).Nodup && (params.args.map (·.arg)).all (fun y => decide (scope.names.lookup y = some .local) && !(y == ("__debug__" : Str))) && decide (scope.kind = .function) && !scope.isGenerator && !scope.isCoroutine &&
  scope.names.all (fun p => !decide (p.2 = .cell)) && decide (fs.map fun f => Str.ofString f.1).Nodup && decide (fs.length ≤ 50) && (match params.args with
    | a :: _ => chkFs a.arg (params.args.map (·.arg)) fs body
    | [] => false)

end Mine
end

section
set_option autoImplicit false
namespace Mine
open PySem

noncomputable abbrev HK (h h' : Heap) : Prop := ∀ b o, h.get? b = some o → h'.get? b = some o
theorem HK.refl (h : Heap) : HK h h := fun _ _ e => e
theorem HK.push (h : Heap) (o : Obj) : HK h (h.push o) := fun _ _ e => Heap.get?_push_of_some _ e

/-- all that stood stands; the frames' own things, but for their slots -/
noncomputable def HW (Z : Addr → Prop) (h h' : Heap) : Prop := ∀ b o, h.get? b = some o → (¬ Z b → h'.get? b = some o) ∧ ∃ sl, h'.get? b = some { o with slots := sl }
theorem HW.of {Z : Addr → Prop} {h h' : Heap} (k : HK h h') : HW Z h h' := fun b o e => ⟨fun _ => k b o e, o.slots, k b o e⟩
theorem HW.trans {Z : Addr → Prop} {a b c : Heap} (x : HW Z a b) (y : HW Z b c) : HW Z a c := fun p o e => ⟨fun n => (y p o ((x p o e).1 n)).1 n, let ⟨_, e1⟩ := (x p o e).2; let ⟨sl, e2⟩ := (y p _ e1).2; ⟨sl, e2⟩⟩
theorem HW.ext {Z : Addr → Prop} {h h' : Heap} (k : HW Z h h') {b : Addr} (e : h'.get? b = none) : h.get? b = none := by
  cases q : h.get? b with
  | none => rfl
  | some o => obtain ⟨sl, e'⟩ := (k b o q).2; rw [e] at e'; cases e'
theorem HW.less {Z Z' : Addr → Prop} {h h' : Heap} (k : HW Z' h h') (s : ∀ b, Z' b → Z b ∨ h.get? b = none) : HW Z h h' := fun b o e => ⟨fun n => (k b o e).1 fun q => (s b q).elim n fun q => (by rw [q] at e; cases e), (k b o e).2⟩
theorem HW.ext1 {Z : Addr → Prop} {h h' h'' : Heap} {C : Addr} (k : HW Z h h') (hC : h.get? C = none) (e : ∀ b o, b ≠ C → h'.get? b = some o → h''.get? b = some o) : HW Z h h'' := fun b o q =>
  have nb : b ≠ C := fun i => by rw [i, hC] at q; cases q
  ⟨fun n => e b o nb ((k b o q).1 n), let ⟨sl, q'⟩ := (k b o q).2; ⟨sl, e b _ nb q'⟩⟩
/-- nothing that stood is turned -/
inductive Kp (Z : Addr → Prop) (s s' : Shared) : Prop
  | mk (h' tk) : s' = { s with heap := h', toks := tk } → HW Z s.heap h' → Kp Z s s'
section
variable {Z : Addr → Prop}
theorem Kp.of {s : Shared} {h' : Heap} {t : Nat} (k : HK s.heap h') : Kp Z s { s with heap := h', toks := t } := ⟨h', t, rfl, .of k⟩
theorem Kp.ofW {s : Shared} {h' : Heap} {t : Nat} (k : HW Z s.heap h') : Kp Z s { s with heap := h', toks := t } := ⟨h', t, rfl, k⟩
theorem Kp.ofH {s : Shared} {h' : Heap} (k : HK s.heap h') : Kp Z s { s with heap := h' } := ⟨h', s.toks, rfl, .of k⟩
theorem Kp.refl (s : Shared) : Kp Z s s := ⟨s.heap, s.toks, rfl, .of (HK.refl _)⟩
theorem Kp.trans {a b c : Shared} (x : Kp Z a b) (y : Kp Z b c) : Kp Z a c := by
  obtain ⟨h1, t1, rfl, k1⟩ := x
  obtain ⟨h2, t2, rfl, k2⟩ := y
  exact ⟨h2, t2, rfl, k1.trans k2⟩
theorem Kp.hw {a b : Shared} (x : Kp Z a b) : HW Z a.heap b.heap := by
  obtain ⟨h1, t1, rfl, k1⟩ := x; exact k1
theorem Kp.tok (s : Shared) (t : Nat) : Kp Z s { s with toks := t } := ⟨s.heap, t, rfl, .of (HK.refl _)⟩
end

inductive Place where
  | loc (L : Addr) (x : Str)
  | cell (c : Addr)
noncomputable def Place.addr : Place → Addr
  | .loc L _ => L
  | .cell c => c
noncomputable def Place.ok (h : Heap) : Place → Prop
  | .loc L _ => ∃ m, h.Ns L m
  | .cell c => ∃ v, h.IsCell c v
noncomputable def Place.has (h : Heap) (v : Value) : Place → Prop
  | .loc L x => ∃ m, h.Ns L m ∧ m x = some v
  | .cell c => h.IsCell c (some v)
theorem Place.ok.kz {Z : Addr → Prop} {h h' : Heap} {p : Place} (x : p.ok h) (k : HW Z h h') : p.ok h' := by
  cases p with
  | loc L x => obtain ⟨m, o, es, ep, e, d, r⟩ := x; obtain ⟨sl, e'⟩ := (k _ _ e).2; exact ⟨m, _, es, ep, e', d, r⟩
  | cell c => obtain ⟨v, o, e, d⟩ := x; obtain ⟨sl, e'⟩ := (k _ _ e).2; exact ⟨v, _, e', d⟩
theorem Place.has.kz {Z : Addr → Prop} {h h' : Heap} {p : Place} {v : Value} (x : p.has h v) (k : HW Z h h') : p.has h' v := by
  cases p with
  | loc L x => obtain ⟨m, ⟨o, es, ep, e, d, r⟩, q⟩ := x; obtain ⟨sl, e'⟩ := (k _ _ e).2; exact ⟨m, ⟨_, es, ep, e', d, r⟩, q⟩
  | cell c => obtain ⟨o, e, d⟩ := x; obtain ⟨sl, e'⟩ := (k _ _ e).2; exact ⟨_, e', d⟩

/-- a text that the run can bear -/
noncomputable def SOk (s : Str) : Prop := s.length ≤ sizeLine ∧ ∀ c ∈ s.cps.toList, c < 0x110000
theorem SOk.append {s t : Str} (a : SOk s) (b : SOk t) (h : s.length + t.length ≤ sizeLine) : SOk (s ++ t) := by
  refine ⟨by show (s.cps ++ t.cps).size ≤ sizeLine; rw [Array.size_append]; exact h, fun c hc => ?_⟩
  have e : (s ++ t).cps = s.cps ++ t.cps := rfl
  rw [e, Array.toList_append, List.mem_append] at hc
  exact hc.elim (a.2 c) (b.2 c)
theorem SOk.sub {s : Str} {l : List Nat} (a : SOk s) (hl : l.length ≤ s.length) (hm : ∀ c ∈ l, c ∈ s.cps.toList) : SOk ⟨l.toArray⟩ :=
  ⟨by show l.toArray.size ≤ sizeLine; rw [List.size_toArray]; exact Nat.le_trans hl a.1, fun c hc => a.2 c (hm c (by simpa using hc))⟩
theorem SOk.one {s : Str} {c : Nat} (a : SOk s) (hc : c ∈ s.cps.toList) : SOk ⟨#[c]⟩ :=
  ⟨by show 1 ≤ sizeLine; decide, fun d hd => by simp at hd; subst hd; exact a.2 d hc⟩
theorem SOk.strOk {s : Str} (a : SOk s) : PyData.strOk s = true := by
  unfold PyData.strOk
  rw [← Array.all_toList, List.all_eq_true]
  exact fun c hc => decide_eq_true (a.2 c hc)

/-- a thing of an own class, whose names lie in a -/
inductive InsX (h : Heap) (x a C : Addr) : Prop
  | mk (o) : h.get? x = some o → o.cls = .ref C → (∀ c, o.data ≠ .cls c) → o.dict = some a → a ≠ x → InsX h x a C
noncomputable def NsOf (h : Heap) (a : Addr) (ns : List String) (xs : List Value) : Prop := ns.length = xs.length ∧ (ns.map Str.ofString).Nodup ∧ ns.length ≤ 50 ∧ h.Ns1 a (fun y => ((ns.map Str.ofString).zip xs).lookup y)
theorem InsX.at {h h' : Heap} {x a C : Addr} (i : InsX h x a C) (k : ∀ o, h.get? x = some o → h'.get? x = some o) : InsX h' x a C := let ⟨o, h1, h2, h3, h4, h5⟩ := i; ⟨o, k o h1, h2, h3, h4, h5⟩
theorem NsOf.at {h h' : Heap} {a : Addr} {ns : List String} {xs : List Value} (i : NsOf h a ns xs) (k : ∀ o, h.get? a = some o → h'.get? a = some o) : NsOf h' a ns xs := ⟨i.1, i.2.1, i.2.2.1, i.2.2.2.at k⟩
theorem InsX.ne {h : Heap} {x a C : Addr} (i : InsX h x a C) (e : h.get? x = none) : False := by obtain ⟨o, h1, _, _, _, _⟩ := i; rw [e] at h1; cases h1
theorem NsOf.ne {h : Heap} {a : Addr} {ns : List String} {xs : List Value} (i : NsOf h a ns xs) (e : h.get? a = none) : False := by obtain ⟨_, _, _, o, es, ep, h1, _⟩ := i; rw [e] at h1; cases h1
mutual
inductive RV (N : Addr → Prop) (h : Heap) : V → Value → Prop
  | none : RV N h .none .none
  | bool (b) : RV N h (.bool b) (.bool b)
  | int (i t) : RV N h (.int i) (.int i t)
  | str (s t) : SOk s → RV N h (.str s) (.str s t)
  | tup {a xs n vs} : ¬ N a → IsT h a xs n → xs.size ≤ sizeLine → RVs N h vs xs.toList → RV N h (.tup vs) (.ref a)
  | lst {a xs n vs} : ¬ N a → IsL h a xs n → xs.size ≤ sizeLine → RVs N h vs xs.toList → RV N h (.lst vs) (.ref a)
  | ref (a) : RV N h (.ref a) (.ref a)
  | iref {x a C ns} : ¬ N x → InsX h x a C → RV N h (.iref C ns a) (.ref x)
  | inst {x a C ns xs vs} : ¬ N x → ¬ N a → InsX h x a C → NsOf h a ns xs → RVs N h vs xs → RV N h (.inst C ns vs) (.ref x)
inductive RVs (N : Addr → Prop) (h : Heap) : List V → List Value → Prop
  | nil : RVs N h [] []
  | cons {v vs x xs} : RV N h v x → RVs N h vs xs → RVs N h (v :: vs) (x :: xs)
end

theorem RV.gen {N N' : Addr → Prop} {h h' : Heap} (hN : ∀ b, N' b → N b ∨ h.get? b = Option.none) (hk : ∀ b o, ¬ N b → h.get? b = some o → h'.get? b = some o) {v : V} {x : Value} (r : RV N h v x) : RV N' h' v x :=
  RV.rec (motive_1 := fun v x _ => RV N' h' v x) (motive_2 := fun vs xs _ => RVs N' h' vs xs) .none .bool .int .str
    (fun a1 a2 a6 _ i => .tup (fun q => (hN _ q).elim a1 fun e => by rw [a2] at e; cases e) (hk _ _ a1 a2) a6 i)
    (fun a1 a2 a6 _ i => .lst (fun q => (hN _ q).elim a1 fun e => by rw [a2] at e; cases e) (hk _ _ a1 a2) a6 i) .ref
    (fun a1 a2 => .iref (fun q => (hN _ q).elim a1 fun e => a2.ne e) (a2.at fun o e => hk _ _ a1 e))
    (fun a1 a2 a3 a5 _ i => .inst (fun q => (hN _ q).elim a1 fun e => a3.ne e) (fun q => (hN _ q).elim a2 fun e => a5.ne e) (a3.at fun o e => hk _ _ a1 e) (a5.at fun o e => hk _ _ a2 e) i)
    .nil (fun _ _ i j => .cons i j) r
theorem RVs.gen {N N' : Addr → Prop} {h h' : Heap} (hN : ∀ b, N' b → N b ∨ h.get? b = Option.none) (hk : ∀ b o, ¬ N b → h.get? b = some o → h'.get? b = some o) {vs : List V} {xs : List Value} (r : RVs N h vs xs) : RVs N' h' vs xs :=
  RVs.rec (motive_1 := fun _ _ _ => True) (motive_2 := fun vs xs _ => RVs N' h' vs xs) trivial (fun _ => trivial) (fun _ _ => trivial) (fun _ _ _ => trivial) (fun _ _ _ _ _ => trivial) (fun _ _ _ _ _ => trivial) (fun _ => trivial)
    (fun _ _ => trivial) (fun _ _ _ _ _ _ => trivial)
    .nil (fun a _ _ j => .cons (a.gen hN hk) j) r
/-- by turns, along a row -/
theorem RVs.ind {N : Addr → Prop} {h : Heap} {P : List V → List Value → Prop} (h0 : P [] []) (h1 : ∀ {v : V} {vs : List V} {x : Value} {xs : List Value}, RV N h v x → P vs xs → P (v :: vs) (x :: xs)) {vs : List V} {xs : List Value} (r : RVs N h vs xs) : P vs xs :=
  RVs.rec (motive_1 := fun _ _ _ => True) (motive_2 := fun vs xs _ => P vs xs) trivial (fun _ => trivial) (fun _ _ => trivial) (fun _ _ _ => trivial) (fun _ _ _ _ _ => trivial) (fun _ _ _ _ _ => trivial) (fun _ => trivial)
    (fun _ _ => trivial) (fun _ _ _ _ _ _ => trivial)
    h0 (fun a _ _ j => h1 a j) r
/-- what must be shown of each value that stands for v -/
noncomputable def RVc (N : Addr → Prop) (h : Heap) (P : Value → Prop) : V → Prop
  | .none => P .none
  | .bool b => P (.bool b)
  | .int i => ∀ t, P (.int i t)
  | .str s => ∀ t, SOk s → P (.str s t)
  | .tup vs => ∀ a xs n, ¬ N a → IsT h a xs n → xs.size ≤ sizeLine → RVs N h vs xs.toList → P (.ref a)
  | .lst vs => ∀ a xs n, ¬ N a → IsL h a xs n → xs.size ≤ sizeLine → RVs N h vs xs.toList → P (.ref a)
  | .ref a => P (.ref a)
  | _ => False
theorem RV.elim {N : Addr → Prop} {h : Heap} {v : V} {x : Value} {P : Value → Prop} (r : RV N h v x) (k : RVc N h P v) : P x := by
  cases r with
  | none => exact k
  | bool b => exact k
  | int i t => exact k t
  | str s t o => exact k t o
  | tup h1 h2 h3 h4 => exact k _ _ _ h1 h2 h3 h4
  | lst h1 h2 h3 h4 => exact k _ _ _ h1 h2 h3 h4
  | ref a => exact k
  | _ => exact False.elim k
noncomputable def RVsc (N : Addr → Prop) (h : Heap) (P : List Value → Prop) : List V → Prop
  | [] => P []
  | v :: vs => ∀ x xs, RV N h v x → RVs N h vs xs → P (x :: xs)
theorem RVs.elim {N : Addr → Prop} {h : Heap} {vs : List V} {xs : List Value} {P : List Value → Prop} (r : RVs N h vs xs) (k : RVsc N h P vs) : P xs := by
  cases r with
  | nil => exact k
  | cons a b => exact k _ _ a b
theorem int_val {N : Addr → Prop} {h : Heap} {v : V} {x : Value} {W : Int → Prop} {P : Value → Prop} (hW : intP v W) (r : RV N h v x) (k : ∀ i t, W i → P (.int i t)) : P x := by
  cases r with
  | int i t => exact k i t hW
  | _ => exact False.elim hW
theorem str_val {N : Addr → Prop} {h : Heap} {v : V} {x : Value} {W : Str → Prop} {P : Value → Prop} (hW : strP v W) (r : RV N h v x) (k : ∀ i t, SOk i → W i → P (.str i t)) : P x := by
  cases r with
  | str i t o => exact k i t o hW
  | _ => exact False.elim hW
theorem RV.keeps {N : Addr → Prop} {h h' : Heap} {v : V} {x : Value} (r : RV N h v x) (k : HK h h') : RV N h' v x := r.gen (fun _ q => .inl q) fun b o _ e => k b o e
theorem RVs.keeps {N : Addr → Prop} {h h' : Heap} {v : List V} {x : List Value} (r : RVs N h v x) (k : HK h h') : RVs N h' v x := r.gen (fun _ q => .inl q) fun b o _ e => k b o e
theorem RV.less {N N' : Addr → Prop} {h : Heap} {v : V} {x : Value} (r : RV N h v x) (k : ∀ b, N' b → N b) : RV N' h v x := r.gen (fun b q => .inl (k b q)) fun _ _ _ e => e
theorem RVs.less {N N' : Addr → Prop} {h : Heap} {v : List V} {x : List Value} (r : RVs N h v x) (k : ∀ b, N' b → N b) : RVs N' h v x := r.gen (fun b q => .inl (k b q)) fun _ _ _ e => e
theorem RVs.length {N : Addr → Prop} {h : Heap} {vs : List V} {xs : List Value} (r : RVs N h vs xs) : vs.length = xs.length := r.ind (P := fun vs xs => vs.length = xs.length) rfl fun _ e => congrArg (· + 1) e
theorem RVs.size {N : Addr → Prop} {h : Heap} {vs : List V} {xs : Array Value} (r : RVs N h vs xs.toList) : vs.length = xs.size := by
  rw [r.length]; exact Array.length_toList
theorem RVs.get {N : Addr → Prop} {h : Heap} {vs : List V} {xs : List Value} (r : RVs N h vs xs) : ∀ (n : Nat) {v : V}, vs[n]? = some v → ∃ x, xs[n]? = some x ∧ RV N h v x :=
  r.ind (P := fun vs xs => ∀ (n : Nat) {v : V}, vs[n]? = some v → ∃ x, xs[n]? = some x ∧ RV N h v x) (fun _ _ e => by cases e) fun a i n v e => by
    cases n with
    | zero => cases e; exact ⟨_, rfl, a⟩
    | succ n => exact i n e
theorem RVs.append {N : Addr → Prop} {h : Heap} {vs ws : List V} {xs ys : List Value} (r : RVs N h vs xs) (b : RVs N h ws ys) : RVs N h (vs ++ ws) (xs ++ ys) :=
  r.ind (P := fun vs xs => RVs N h (vs ++ ws) (xs ++ ys)) b fun a i => .cons a i

inductive RO (hsh : HFn) (N : Addr → Prop) (h : Heap) (a : Addr) : AO → Prop
  | list {xs n vs} : IsL h a xs n → xs.size ≤ sizeLine → RVs N h vs xs.toList → RO hsh N h a (.list vs)
  | inst {c ns xs vs} : NsOf h a ns xs → RVs N h vs xs → RO hsh N h a (.inst c ns vs)

theorem RO.gen {hsh : HFn} {N N' : Addr → Prop} {h h' : Heap} {a : Addr} {o : AO} (hN : ∀ b, N' b → N b ∨ h.get? b = none) (hk : ∀ b o, ¬ N b → h.get? b = some o → h'.get? b = some o)
    (ha : ∀ o, h.get? a = some o → h'.get? a = some o) : RO hsh N h a o → RO hsh N' h' a o
  | .list a1 a5 a4 => .list (ha _ a1) a5 (a4.gen hN hk)
  | .inst a1 a2 => .inst (a1.at ha) (a2.gen hN hk)

noncomputable def NN (H : AH) (Sys : Addr → Prop) : Addr → Prop := fun a => H a ≠ none ∨ Sys a
/-- the frames of the run -/
noncomputable def ZA (A : Around) (b : Addr) : Prop := ∃ l e, A.frames = some l ∧ e ∈ l ∧ e.frame = some b
noncomputable def FZ (A : Around) (Sys : Addr → Prop) : Addr → Prop := fun b => ZA A b ∧ Sys b
theorem RV.kz {H : AH} {A : Around} {Sys : Addr → Prop} {h h' : Heap} {v : V} {x : Value} (r : RV (NN H Sys) h v x) (k : HW (FZ A Sys) h h') : RV (NN H Sys) h' v x := r.gen (fun _ q => .inl q) fun b o n e => (k b o e).1 fun q => n (.inr q.2)
theorem RVs.kz {H : AH} {A : Around} {Sys : Addr → Prop} {h h' : Heap} {v : List V} {x : List Value} (r : RVs (NN H Sys) h v x) (k : HW (FZ A Sys) h h') : RVs (NN H Sys) h' v x := r.gen (fun _ q => .inl q) fun b o n e => (k b o e).1 fun q => n (.inr q.2)

structure Sim (hsh : HFn) (T : Heap → Prop) (lay : Nat → Option Place) (Sys Z : Addr → Prop) (base : Heap) (st : St) (h : Heap) : Prop where
  keep : HW Z base h
  zs : ∀ b, Z b → Sys b
  top : ∃ b0, T b0 ∧ HK b0 base ∧ ∀ a, (Sys a ∨ st.B a ≠ none) → b0.get? a = none
  vals : ∀ i v p, st.ρ[i]? = some (some v) → lay i = some p → ∃ val, p.has h val ∧ RV (NN st.H Sys) h v val
  ok : ∀ i p, lay i = some p → p.ok h
  inj : ∀ i j p, lay i = some p → lay j = some p → i = j
  sys : ∀ i p, lay i = some p → Sys p.addr ∧ base.get? p.addr = none ∧ st.H p.addr = none
  objs : ∀ a o, st.H a = some o → RO hsh (NN st.H Sys) h a o
  own : ∀ a, st.H a ≠ none → st.B a = none → base.get? a = none
  live : ∀ a, Sys a → h.get? a ≠ none
  ent : ∀ a, st.B a ≠ none → ∃ o, base.get? a = some o
  dis : ∀ a, Sys a → st.H a = none

theorem HW.but {Z : Addr → Prop} {b h h' : Heap} {a : Addr} (x : HW Z b h) (ha : b.get? a = none) (k : ∀ c, c ≠ a → h'.get? c = h.get? c) : HW Z b h' := fun c o e => by
  rw [k c (fun q => by rw [q, ha] at e; cases e)]; exact x c o e
theorem RO.kz {hsh : HFn} {H : AH} {Sys Z : Addr → Prop} {h h' : Heap} {a : Addr} {o : AO} (zs : ∀ b, Z b → Sys b) (r : RO hsh (NN H Sys) h a o) (n : ¬ Sys a) (k : HW Z h h') : RO hsh (NN H Sys) h' a o := r.gen (fun _ q => .inl q) (fun b o n e => (k b o e).1 fun q => n (.inr (zs b q))) (fun o e => (k a o e).1 fun q => n (zs a q))
theorem Sim.kz {hsh : HFn} {T : Heap → Prop} {lay : Nat → Option Place} {Sys Z : Addr → Prop} {base : Heap} {st : St} {h h' : Heap} (x : Sim hsh T lay Sys Z base st h) (k : HW Z h h') : Sim hsh T lay Sys Z base st h' where
  keep := x.keep.trans k
  zs := x.zs
  top := x.top
  vals := fun i v p a b => let ⟨val, c, d⟩ := x.vals i v p a b; ⟨val, c.kz k, d.gen (fun _ q => .inl q) fun b o n e => (k b o e).1 fun q => n (.inr (x.zs b q))⟩
  ok := fun i p a => (x.ok i p a).kz k
  inj := x.inj
  sys := x.sys
  objs := fun a o e => (x.objs a o e).kz x.zs (fun q => by rw [x.dis a q] at e; cases e) k
  own := x.own
  live := fun a q e => x.live a q (k.ext e)
  ent := x.ent
  dis := x.dis
theorem Sim.topH {hsh : HFn} {T : Heap → Prop} {lay : Nat → Option Place} {Sys Z : Addr → Prop} {base : Heap} {st : St} {h : Heap} (S : Sim hsh T lay Sys Z base st h) : ∃ b0, T b0 ∧ HK b0 h ∧ ∀ a, NN st.H Sys a → b0.get? a = none :=
  let ⟨b0, t, k0, n⟩ := S.top; ⟨b0, t, fun b o e => (S.keep b o (k0 b o e)).1 (fun q => by rw [n b (.inl (S.zs b q))] at e; cases e), fun a q => q.elim (fun q => by
    by_cases e : st.B a = none
    · exact (HW.of (Z := Sys) k0).ext (S.own a q e)
    · exact n a (.inr e)) fun q => n a (.inl q)⟩
theorem Sim.keeps {hsh : HFn} {T : Heap → Prop} {lay : Nat → Option Place} {Sys Z : Addr → Prop} {base : Heap} {st : St} {h h' : Heap} (x : Sim hsh T lay Sys Z base st h) (k : HK h h') : Sim hsh T lay Sys Z base st h' := x.kz (.of k)

theorem RO.exists {hsh : HFn} {N : Addr → Prop} {h : Heap} {a : Addr} {o : AO} (r : RO hsh N h a o) : ∃ ob, h.get? a = some ob := by
  cases r with
  | list a1 _ _ => exact ⟨_, a1⟩
  | inst a1 _ => obtain ⟨_, _, _, o, es, ep, h1, _⟩ := a1; exact ⟨_, h1⟩

theorem Sim.fresh {hsh : HFn} {T : Heap → Prop} {lay : Nat → Option Place} {Sys Z : Addr → Prop} {base : Heap} {st : St} {h : Heap} (x : Sim hsh T lay Sys Z base st h) {a : Addr} (e : h.get? a = none) : st.H a = none := by
  cases q : st.H a with
  | none => rfl
  | some o =>
    obtain ⟨ob, e'⟩ := (x.objs a o q).exists
    rw [e] at e'; cases e'


theorem IsT.isTuple {h : Heap} {a : Addr} {xs : Array Value} {n : Nat} (x : IsT h a xs n) : h.IsTuple a xs := ⟨_, x, rfl, n, rfl⟩
theorem IsT.isTup {h : Heap} {a : Addr} {xs : Array Value} {n : Nat} (x : IsT h a xs n) : PyProof.Rows.IsTup h a xs := ⟨_, x, rfl, n, rfl⟩

/-- a row of the frame's or a frozen one -/
theorem one_arg {N : Addr → Prop} {h : Heap} {u : V} {vals : List Value} {P : List Value → Prop} (r : RVs N h [u] vals) (k : ∀ x, RV N h u x → P [x]) : P vals := by
  apply RVs.elim r; intro x xs r1 r2
  apply RVs.elim r2
  exact k x r1
theorem seq_dep {hsh : HFn} {H : AH} {Sys : Addr → Prop} {h : Heap} (HO : ∀ a o, H a = some o → RO hsh (NN H Sys) h a o) {v : V} {x : Value} {vs : List V} {P : Value → Prop} (r : RV (NN H Sys) h v x) (e : seqL H v = some vs)
    (k : ∀ a xs n, IsL h a xs n → xs.size ≤ sizeLine → RVs (NN H Sys) h vs xs.toList → ¬ NN H Sys a ∨ (a ∈ depsV v ∧ H a ≠ none) → P (.ref a)) : P x := by
  cases v with
  | lst ws =>
    cases (show some ws = some vs from e)
    apply RV.elim r; intro a xs n a1 a2 a3 a4
    exact k _ _ _ a2 a3 a4 (.inl a1)
  | ref a =>
    apply RV.elim r
    have e : (match H a with
      | some (.list vs) => some vs
      | _ => none) = some vs := e
    split at e
    · rename_i ws hw
      cases e
      cases HO a _ hw with
      | list b1 b2 b3 => exact k _ _ _ b1 b2 b3 (.inr ⟨List.mem_singleton.mpr rfl, by rw [hw]; exact nofun⟩)
    · cases e
  | _ => cases e
theorem seq_val {hsh : HFn} {H : AH} {Sys : Addr → Prop} {h : Heap} (HO : ∀ a o, H a = some o → RO hsh (NN H Sys) h a o) {v : V} {x : Value} {vs : List V} {P : Value → Prop} (r : RV (NN H Sys) h v x) (e : seqL H v = some vs)
    (k : ∀ a xs n, IsL h a xs n → xs.size ≤ sizeLine → RVs (NN H Sys) h vs xs.toList → P (.ref a)) : P x := seq_dep HO r e fun a xs n h1 h2 h3 _ => k a xs n h1 h2 h3

end Mine
end

section
set_option autoImplicit false
namespace Mine
open PySem

/-- the frames that stand -/
noncomputable def FrOk (A : Around) (Sys : Addr → Prop) (h : Heap) : Prop := (∀ a, Sys a → h.get? a ≠ none) ∧ ∃ l, A.frames = some l ∧ ∀ e ∈ l, e.scope.kind ≠ .module ∧ ∃ L o, e.frame = some L ∧ Sys L ∧ h.get? L = some o ∧ ∀ vs, o.data ≠ .fields vs
theorem FrOk.kz {A : Around} {Sys Z : Addr → Prop} {h h' : Heap} (x : FrOk A Sys h) (k : HW Z h h') : FrOk A Sys h' :=
  let ⟨lv, l, e, f⟩ := x; ⟨fun a q e => lv a q (k.ext e), l, e, fun v hv => let ⟨h1, L, o, h2, h3, h4, h5⟩ := f v hv; let ⟨sl, h6⟩ := (k L o h4).2; ⟨h1, L, _, h2, h3, h6, h5⟩⟩
/-- nothing is handled -/
noncomputable def HdOk (A : Around) (Sys : Addr → Prop) (h : Heap) : Prop := A.handled = none
theorem HdOk.kz {A : Around} {Sys : Addr → Prop} {h h' : Heap} (x : HdOk A Sys h) (k : HW (FZ A Sys) h h') : HdOk A Sys h' := x
end Mine
end

section
set_option autoImplicit false
set_option maxRecDepth 100000
namespace Mine
open PySem

noncomputable def Hq (A : Around) (h : Heap) : Prop := A.handled = none
section
variable {prog : Program} {w : World} {A : Around} {E : Value → Shared → Prop} {s : Shared}
theorem list_end {it l : Addr} {i : Nat} {items : Array Value} {Q : Option Value → Shared → Prop} (hq : Hq A s.heap) (hy : ∀ y, A.handled = some (.ref y) → y ≠ it) (hit : s.heap.IsListIter it l i) (hl : s.heap.IsList l items) (hx : items[i]? = none)
    (hQ : ∀ h', Heap.ExtBut it s.heap h' → Q none { s with heap := h' }) : wpAny (model prog w) A (pyNext (.ref it)) Q E s := wpAny_pyNext_list_end hq hit hl hx hQ
theorem tuple_end {it l : Addr} {i : Nat} {items : Array Value} {Q : Option Value → Shared → Prop} (hq : Hq A s.heap) (hy : ∀ y, A.handled = some (.ref y) → y ≠ it) (hit : s.heap.IsTupleIter it l i) (hl : s.heap.IsTuple l items) (hx : items[i]? = none)
    (hQ : ∀ h', Heap.ExtBut it s.heap h' → Q none { s with heap := h' }) : wpAny (model prog w) A (pyNext (.ref it)) Q E s := wpAny_pyNext_tuple_end hq hit hl hx hQ
theorem ascii_end {it : Addr} {x : Str} {t : Tok} {i : Nat} {Q : Option Value → Shared → Prop} (hq : Hq A s.heap) (hy : ∀ y, A.handled = some (.ref y) → y ≠ it) (hit : s.heap.IsStrIter it "str_ascii_iterator" x t i) (hx : x.cps[i]? = none)
    (hQ : ∀ h', Heap.ExtBut it s.heap h' → Q none { s with heap := h' }) : wpAny (model prog w) A (pyNext (.ref it)) Q E s := wpAny_pyNext_ascii_end hq hit hx hQ
theorem wide_end {it : Addr} {x : Str} {t : Tok} {i : Nat} {Q : Option Value → Shared → Prop} (hq : Hq A s.heap) (hy : ∀ y, A.handled = some (.ref y) → y ≠ it) (hit : s.heap.IsStrIter it "str_iterator" x t i) (hx : x.cps[i]? = none)
    (hQ : ∀ h', Heap.ExtBut it s.heap h' → Q none { s with heap := h' }) : wpAny (model prog w) A (pyNext (.ref it)) Q E s := wpAny_pyNext_wide_end hq hit hx hQ
theorem range_end {it : Addr} {x left step : Int} {Q : Option Value → Shared → Prop} (hq : Hq A s.heap) (hit : IsRangeIter s.heap it x left step) (hleft : left ≤ 0)
    (hQ : ∀ h', Heap.ExtBut it s.heap h' → Q none { s with heap := h' }) : wpAny (model prog w) A (pyNext (.ref it)) Q E s := wpAny_pyNext_range_end hq hit hleft hQ
end
end Mine
end

section
set_option autoImplicit false
namespace Mine
open PySem

/-- how a raise leaves: an exception of an own class is under way, and all that stood stands -/
inductive Rz (mg : Str → Option Value) (A : Around) (Sys : Addr → Prop) (s : Shared) (X : String → Prop) (e : Value) (s' : Shared) : Prop
theorem Rz.trans {mg : Str → Option Value} {A : Around} {Sys : Addr → Prop} {s s₁ s' : Shared} {X : String → Prop} {e : Value} (k : Kp (FZ A Sys) s s₁) (r : Rz mg A Sys s₁ X e s') : Rz mg A Sys s X e s' := by cases r
theorem Rz.no {mg : Str → Option Value} {A : Around} {Sys : Addr → Prop} {s s' : Shared} {e : Value} (r : Rz mg A Sys s (fun _ => False) e s') : False := by cases r

structure Rm (d : Nat) (A : Around) : Prop where
  depth : A.depth + d + 150 < recursionLimit
  units : A.units + 20 * d + 200 < cLine
/-- a thing just made: it stood nowhere ahead, and nothing in it leads back to it -/
noncomputable abbrev Frsh (N : Addr → Prop) (s s' : Shared) (v : V) (val : Value) : Prop :=
  ∀ a, val = .ref a → s.heap.get? a = none ∧ ∀ vs, v = .lst vs → ∃ xs n, IsL s'.heap a xs n ∧ xs.size ≤ sizeLine ∧ RVs (fun b => N b ∨ b = a) s'.heap vs xs.toList
theorem Frsh.before {N Z : Addr → Prop} {s₀ s s' : Shared} {v : V} {val : Value} (x : Frsh N s s' v val) (k : Kp Z s₀ s) : Frsh N s₀ s' v val := fun a e => by
  obtain ⟨h1, h2⟩ := x a e
  exact ⟨k.hw.ext h1, h2⟩
theorem Frsh.mk {N : Addr → Prop} {s s' : Shared} {vs : List V} {xs : Array Value} {n : Nat} {a : Addr} (hf : s.heap.get? a = none) (r : RVs N s.heap vs xs.toList) (k : HK s.heap s'.heap) (hl : IsL s'.heap a xs n) (hz : xs.size ≤ sizeLine) : Frsh N s s' (.lst vs) (.ref a) := by
  rintro a' ⟨⟩
  refine ⟨hf, ?_⟩
  rintro vs' ⟨⟩
  refine ⟨xs, n, hl, hz, r.gen (fun b q => ?_) fun b o _ e => k b o e⟩
  rcases q with q | rfl
  · exact .inl q
  · exact .inr hf

/-- a tree, read as a transformer of wishes about values -/
noncomputable def Snd (prog : Program) (w : World) (mg : Str → Option Value) (A : Around) (N Sys : Addr → Prop) (s : Shared) (f : Bool) (t : Sem Value) (W : (V → Prop) → (String → Prop) → Prop) : Prop :=
  ∀ (Q : V → Prop) (X : String → Prop) (K : Value → Shared → Prop) (E : Value → Shared → Prop), W Q X →
    (∀ v val s', Q v → RV N s'.heap v val → Kp (FZ A Sys) s s' → (f = true → Frsh N s s' v val) → K val s') →
    (∀ e s', Rz mg A Sys s X e s' → E e s') → wpAny (model prog w) A t K E s

structure EnvOk (env : Env) (names : List (Str × NameKind)) (σ : List (Str × Nat)) (lay : Nat → Option Place) : Prop where
  kind : env.scope.kind = .function
  glob : env.globals = mainGlobals
  blt : env.builtins = builtinsNs
  gl : ∀ x, names.lookup x = some .globalImplicit → env.kindOf x = some .globalImplicit
  lc : ∀ x, names.lookup x = some .local → env.kindOf x = some .local
  ce : ∀ x, names.lookup x = some .cell → env.kindOf x = some .cell
  fr : ∀ x, names.lookup x = some .free → env.kindOf x = some .cell ∨ env.kindOf x = some .free
  vars : ∀ x i, σ.lookup x = some i → ∃ p, lay i = some p ∧ ((env.kindOf x = some .local ∧ p = .loc env.locals x) ∨
    ((env.kindOf x = some .cell ∨ env.kindOf x = some .free) ∧ (x == ("__classdict__" : Str)) = false ∧ ∃ c, env.cells.lookup x = some c ∧ p = .cell c))

section
variable {prog : Program} {w : World} {mg : Str → Option Value} {A : Around} {N Z : Addr → Prop} {s : Shared} {env : Env}

theorem snd_none {k : Nat} {pos : Pos} : Snd prog w mg A N Z s false (eval (.Constant .none k pos) env) (fun Q _ => Q .none) :=
  fun _ _ _ _ hW hK _ => wpAny_Constant_none (hK _ _ _ hW .none (Kp.refl s) nofun)
theorem snd_bool {b : Bool} {k : Nat} {pos : Pos} : Snd prog w mg A N Z s false (eval (.Constant (.bool b) k pos) env) (fun Q _ => Q (.bool b)) :=
  fun _ _ _ _ hW hK _ => wpAny_Constant_bool (hK _ _ _ hW (.bool b) (Kp.refl s) nofun)
theorem snd_int {i : Int} {k : Nat} {pos : Pos} : Snd prog w mg A N Z s false (eval (.Constant (.int i) k pos) env) (fun Q _ => Q (.int i)) :=
  fun _ _ _ _ hW hK _ => wpAny_Constant_int (hK _ _ _ hW (.int i _) (Kp.tok s _) nofun)
theorem snd_str {x : Str} {k : Nat} {pos : Pos} (hx : SOk x) : Snd prog w mg A N Z s false (eval (.Constant (.str x) k pos) env) (fun Q _ => Q (.str x)) :=
  fun _ _ _ _ hW hK _ => wpAny_Constant_str (hK _ _ _ hW (.str x _ hx) (Kp.tok s _) nofun)
end

/-- load a name -/
theorem ld_var {M : Model} {A : Around} {E : Value → Shared → Prop} {hsh : HFn} {T : Heap → Prop} {lay : Nat → Option Place} {Sys Z : Addr → Prop} {base : Heap} {st : St} {s : Shared} {env : Env} {names : List (Str × NameKind)} {σ : List (Str × Nat)}
    (O : EnvOk env names σ lay) (S : Sim hsh T lay Sys Z base st s.heap) {x : Str} {i : Nat} {v : V} {Q : Value → Shared → Prop} (hx : σ.lookup x = some i) (hv : st.ρ[i]? = some (some v))
    (h : ∀ val, RV (NN st.H Sys) s.heap v val → Q val s) : wpAny M A (loadName env x) Q E s := by
  obtain ⟨p, hp, hc⟩ := O.vars x i hx
  obtain ⟨val, hh, hr⟩ := S.vals i v p hv hp
  rcases hc with ⟨hk, rfl⟩ | ⟨hk, hd, c, hc, rfl⟩
  · obtain ⟨m, hm, e⟩ := hh
    exact wpAny_loadName_local O.kind hk hm e (h val hr)
  · rcases hk with hk | hk
    · exact wpAny_loadName_cell O.kind hk hc hh (h val hr)
    · exact wpAny_loadName_free O.kind hk hc hh (h val hr) hd

/-- store a name -/
theorem st_var {M : Model} {A : Around} {E : Value → Shared → Prop} {hsh : HFn} {T : Heap → Prop} {lay : Nat → Option Place} {Sys Z : Addr → Prop} {base : Heap} {st : St} {s : Shared} {env : Env} {names : List (Str × NameKind)} {σ : List (Str × Nat)}
    (O : EnvOk env names σ lay) (S : Sim hsh T lay Sys Z base st s.heap) {x : Str} {i : Nat} {v : V} {val : Value} {Q : Unit → Shared → Prop} (hx : σ.lookup x = some i) (hi : i < st.ρ.length)
    (hfree : env.kindOf x ≠ some .free) (hr : RV (NN st.H Sys) s.heap v val)
    (h : ∀ h' t p, lay i = some p → Heap.SameBut p.addr s.heap h' → Sim hsh T lay Sys Z base { st with ρ := st.ρ.set i (some v) } h' → Q () { s with heap := h', toks := t }) :
    wpAny M A (storeName env x val) Q E s := by
  obtain ⟨p, hp, hc⟩ := O.vars x i hx
  have hN : NN st.H Sys p.addr := .inr (S.sys i p hp).1
  -- what the store leaves
  have fin : ∀ h', Heap.SameBut p.addr s.heap h' → p.has h' val → p.ok h' → (∀ j q, lay j = some q → j ≠ i → (∀ u, q.has s.heap u → q.has h' u) ∧ (q.ok s.heap → q.ok h')) →
      Sim hsh T lay Sys Z base { st with ρ := st.ρ.set i (some v) } h' := by
    intro h' hs hh hok hoth
    have hk : ∀ b o, ¬ NN st.H Sys b → s.heap.get? b = some o → h'.get? b = some o := fun b o nb e => (hs.2 b (fun q => nb (q ▸ hN))).trans e
    refine ⟨S.keep.but (S.sys i p hp).2.1 hs.2, S.zs, S.top, fun j u q hj hq => ?_, fun j q hq => ?_, S.inj, S.sys, fun a o e => ?_, S.own, fun a q e => ?_, S.ent, S.dis⟩
    · by_cases hji : j = i
      · subst hji
        rw [List.getElem?_set_self hi] at hj
        cases hj
        rw [hp] at hq; cases hq
        exact ⟨val, hh, hr.gen (fun _ q => .inl q) hk⟩
      · rw [List.getElem?_set_ne (Ne.symm hji)] at hj
        obtain ⟨u', a1, a2⟩ := S.vals j u q hj hq
        exact ⟨u', (hoth j q hq hji).1 u' a1, a2.gen (fun _ q => .inl q) hk⟩
    · by_cases hji : j = i
      · subst hji; rw [hp] at hq; cases hq; exact hok
      · exact (hoth j q hq hji).2 (S.ok j q hq)
    · have e0 : st.H a = some o := e
      refine (S.objs a o e0).gen (fun _ q => .inl q) hk fun ob e' => (hs.2 a fun q => ?_).trans e'
      rw [q, (S.sys i p hp).2.2] at e0; cases e0
    · by_cases ha : a = p.addr
      · subst ha
        cases p with
        | loc L x => obtain ⟨m, o, es, ep, e', _⟩ := hok; rw [show (Place.loc L x).addr = L from rfl, e'] at e; cases e
        | cell c => obtain ⟨v, o, e', _⟩ := hok; rw [show (Place.cell c).addr = c from rfl, e'] at e; cases e
      · rw [hs.2 a ha] at e; exact S.live a q e
  rcases hc with ⟨hk, rfl⟩ | ⟨hk, hd, c, hc, rfl⟩
  · obtain ⟨m, hm⟩ := S.ok i _ hp
    refine wpAny_storeName_local hk hm (fun h' hn hs => h h' _ _ hp hs (fin h' hs ⟨_, hn, by simp⟩ ⟨_, hn⟩ fun j q hq hji => ?_)) (by rw [O.kind]; rfl)
    cases q with
    | loc L y =>
      by_cases hL : L = env.locals
      · subst hL
        have hne : y ≠ x := fun e => hji (S.inj j i _ hq (e ▸ hp))
        refine ⟨fun u hu => ?_, fun _ => ⟨_, hn⟩⟩
        obtain ⟨m', hm', e'⟩ := hu
        have : m' = m := by
          obtain ⟨o1, es1, ep1, g1, d1, _, f1⟩ := hm'
          obtain ⟨o2, es2, ep2, g2, d2, _, f2⟩ := hm
          rw [g1] at g2; cases g2
          rw [d1] at d2; cases d2
          funext z; rw [← f1, ← f2]
        subst this
        exact ⟨_, hn, by simp [hne, e']⟩
      · exact ⟨fun u hu => let ⟨m', a, b⟩ := hu; ⟨m', a.sameBut hs hL, b⟩, fun hu => let ⟨m', a⟩ := hu; ⟨m', a.sameBut hs hL⟩⟩
    | cell c =>
      have hne : ∀ v, s.heap.IsCell c v → c ≠ env.locals := by
        rintro v ⟨o, e, d⟩ rfl
        obtain ⟨o2, es2, ep2, g2, d2, _⟩ := hm
        rw [e] at g2; cases g2
        rw [d] at d2; cases d2
      exact ⟨fun u hu => Heap.IsCell.sameBut hu hs (hne _ hu), fun hu => let ⟨v', a⟩ := hu; ⟨v', a.sameBut hs (hne _ a)⟩⟩
  · have hk : env.kindOf x = some .cell := hk.resolve_right hfree
    obtain ⟨v0, hv0⟩ := S.ok i _ hp
    refine wpAny_storeName_cell O.kind hk hc hv0 fun h' hn hs => h h' _ _ hp hs (fin h' hs hn ⟨_, hn⟩ fun j q hq hji => ?_)
    cases q with
    | loc L y =>
      have hne : ∀ m, s.heap.Ns L m → L ≠ c := by
        rintro m ⟨o2, es2, ep2, g2, d2, _⟩ rfl
        obtain ⟨o, e, d⟩ := hv0
        rw [e] at g2; cases g2
        rw [d] at d2; cases d2
      exact ⟨fun u hu => let ⟨m', a, b⟩ := hu; ⟨m', a.sameBut hs (hne _ a), b⟩, fun hu => let ⟨m', a⟩ := hu; ⟨m', a.sameBut hs (hne _ a)⟩⟩
    | cell c' =>
      have hne : c' ≠ c := fun e => hji (S.inj j i _ hq (e ▸ hp))
      exact ⟨fun u hu => Heap.IsCell.sameBut hu hs hne, fun hu => let ⟨v', a⟩ := hu; ⟨v', a.sameBut hs hne⟩⟩

end Mine
end

section
set_option autoImplicit false
namespace Mine
open PySem

structure RmF (d : Nat) (A : Around) : Prop extends Rm d A where
  head : ∃ env l, A.frames = some (env :: l) ∧ env.scope.isGenerator = false ∧ env.scope.isCoroutine = false ∧ env.builtins = builtinsNs ∧ env.globals = mainGlobals

/-- where a call may be made -/
structure RmC (d : Nat) (A : Around) : Prop extends Rm d A where
  fr : ∃ l, A.frames = some l
theorem RmF.toC {d : Nat} {A : Around} (x : RmF d A) : RmC d A := ⟨x.toRm, let ⟨e, l, h, _⟩ := x.head; ⟨e :: l, h⟩⟩

/-- what every heap of the run bears -/
structure TG (prog : Program) (mg mb : Str → Option Value) (h : Heap) : Prop where
  g : h.Ns mainGlobals mg
  b : h.Ns builtinsNs mb
  nolimit : h.NoLimit
  noseer : h.NoSeer
  tree : prog.given.tree = none
theorem TG.keeps {prog : Program} {mg mb : Str → Option Value} {h h' : Heap} (x : TG prog mg mb h) (k : HK h h') : TG prog mg mb h' :=
  ⟨x.g.keeps k, x.b.keeps k, x.nolimit.keeps k, x.noseer.keeps k, x.tree⟩

theorem pylong {prog : Program} {w : World} {mg mb : Str → Option Value} {A : Around} {s : Shared} {d : Nat} (R : RmF d A) (T : TG prog mg mb s.heap) : PylongRoom (model prog w) A s := by
  obtain ⟨env, l, h1, h2, h3, h4, h5⟩ := R.head
  exact PylongRoom.of T.nolimit (by have := R.depth; show A.depth + 100 < recursionLimit; omega) (SeerAt.of T.noseer T.tree h1 h2 h3 h4 h5)

noncomputable abbrev HO (hsh : HFn) (H : AH) (Sys : Addr → Prop) (h : Heap) : Prop := ∀ a o, H a = some o → RO hsh (NN H Sys) h a o

theorem fresh_size (h : Heap) : h.get? h.objs.size = none := Heap.get?_none_of_le (Nat.le_refl _)
theorem new_lst {hsh : HFn} {H : AH} {Sys : Addr → Prop} {h : Heap} {vs : List V} {xs : Array Value} (ho : HO hsh H Sys h) (hsys : ∀ a, Sys a → h.get? a ≠ none) (r : RVs (NN H Sys) h vs xs.toList) (hz : xs.size ≤ sizeLine) :
    RV (NN H Sys) (h.push { cls := .type "list", data := .seq xs }) (.lst vs) (.ref h.objs.size) := by
  refine .lst (fun q => ?_) (IsL.new h xs) hz (r.keeps (HK.push h _))
  rcases q with q | q
  · cases e : H h.objs.size with
    | none => exact q e
    | some o =>
      obtain ⟨ob, e'⟩ := (ho _ _ e).exists
      rw [fresh_size] at e'; cases e'
  · exact hsys _ q (fresh_size h)
theorem new_tup {hsh : HFn} {H : AH} {Sys : Addr → Prop} {h : Heap} {vs : List V} {xs : Array Value} (ho : HO hsh H Sys h) (hsys : ∀ a, Sys a → h.get? a ≠ none) (r : RVs (NN H Sys) h vs xs.toList) (hz : xs.size ≤ sizeLine) :
    RV (NN H Sys) (h.push { cls := .type "tuple", data := .seq xs }) (.tup vs) (.ref h.objs.size) := by
  refine .tup (fun q => ?_) (IsT.new h xs) hz (r.keeps (HK.push h _))
  rcases q with q | q
  · cases e : H h.objs.size with
    | none => exact q e
    | some o =>
      obtain ⟨ob, e'⟩ := (ho _ _ e).exists
      rw [fresh_size] at e'; cases e'
  · exact hsys _ q (fresh_size h)

section
variable {hsh : HFn} {prog : Program} {w : World} {A : Around} {E : Value → Shared → Prop} {s : Shared} {H : AH} {Sys : Addr → Prop} {mg mb : Str → Option Value} {d : Nat}

theorem RVs.repL {N : Addr → Prop} {h : Heap} {vs : List V} {xs : List Value} (r : RVs N h vs xs) : ∀ n : Nat, RVs N h (repL n vs) (repL n xs)
  | 0 => .nil
  | n + 1 => by
    have := r.append (r.repL n)
    simpa [Mine.repL, List.replicate_succ] using this
theorem repL_length {α : Type} (n : Nat) (xs : List α) : (repL n xs).length = n * xs.length := by simp [repL]

theorem repL_nil {α : Type} (n : Nat) : repL n ([] : List α) = [] := by simp [repL]
theorem foldl_rep {α : Type} (xs : Array α) : ∀ (n : Nat) (acc : Array α), ((List.replicate n xs).foldl (fun x1 x2 => x1 ++ x2) acc).toList = acc.toList ++ repL n xs.toList
  | 0, acc => by simp [repL]
  | n + 1, acc => by
    rw [List.replicate_succ, List.foldl_cons, foldl_rep xs n]
    simp [repL, List.replicate_succ]
theorem mul_row {l : Addr} {items : Array Value} {k : Nat} {x : Int} {u : Tok} {Q : Value → Shared → Prop} (hl : IsL s.heap l items k) (hlo : -(2 ^ 62 : Int) ≤ x) (hhi : x < 2 ^ 62) (hsz : items.size * x.toNat ≤ sizeLine)
    (h : ∀ r : Array Value, r.toList = repL x.toNat items.toList → Q (.ref s.heap.objs.size) { s with heap := s.heap.push { cls := .type "list", data := .seq r } }) :
    wpAny (model prog w) A (binaryOp .Mult (.ref l) (.int x u)) Q E s := by
  have hz : items.size * x.toNat ≤ 16777216 := hsz
  refine wpAny_binaryOp_repeat_ref (T := "list") (U := "int") (by decide) ⟨_, hl, rfl⟩ (fun s' => typeIs_int s' x u) noFill_list_mul F.fills_int_mul F.slot_int_rmul repeat_list F.slot_int_index.lookup ?_
  refine call_meets F.slot_int_rmul (typeIs_int s x u) F.entry_int_rmul (F.args_int_rmul_2 _ _) (int___rmul___int_list x u l items k) ⟨hl, rfl, ⟨_, hl, rfl⟩, ?_⟩
  refine call_meets F.slot_list_mul ⟨_, hl, rfl⟩ F.entry_list_mul (F.args_list_mul_2 _ _) (AutoListH.list___mul___list_int_3 l items k x u (by simp [Builtin.List.listFitsIndex]; omega) (by omega) (by simp [Builtin.List.listTooLong, sizeLine]; omega)) ⟨hl, ?_⟩
  refine h _ ?_
  rw [foldl_rep]
  by_cases hi : items.isEmpty = true
  · have e : items = #[] := by simpa using hi
    subst e; simp [repL]
  · rw [if_neg hi]; simp

theorem txt_mul {x : Str} {n : Int} (h : 0 ≤ n) : Txt.mul x n = ⟨(repL n.toNat x.cps.toList).toArray⟩ := by
  unfold Txt.mul
  by_cases h1 : n < 1
  · rw [if_pos h1]
    have e : n = 0 := by omega
    subst e; rfl
  · rw [if_neg h1]
    split
    · rename_i h2
      simp only [Bool.or_eq_true, beq_iff_eq] at h2
      rcases h2 with h2 | h2
      · subst h2
        apply Str.ext'
        simp [repL]
      · have e : x.cps = #[] := Array.eq_empty_of_size_eq_zero h2
        apply Str.ext'
        simp [e, repL_nil]
    · congr 1
      apply Array.toList_inj.mp
      rw [foldl_rep]; simp
theorem rep_mem {α : Type} {n : Nat} {xs : List α} {c : α} (h : c ∈ repL n xs) : c ∈ xs := by
  unfold repL at h
  obtain ⟨l, hl, hc⟩ := List.mem_flatten.mp h
  rw [List.eq_of_mem_replicate hl] at hc; exact hc
theorem intP_inv {v : V} {P : Int → Prop} (h : intP v P) : ∃ i, v = .int i ∧ P i := by
  cases v <;> first | exact ⟨_, rfl, h⟩ | exact False.elim h
theorem seqP_inv {H : AH} {v : V} {P : List V → Prop} (h : seqP H v P) : ∃ x, seqL H v = some x ∧ P x := by
  unfold seqP at h
  cases e : seqL H v with
  | none => rw [e] at h; exact False.elim h
  | some x => rw [e] at h; exact ⟨_, rfl, h⟩

theorem bits_le {i : Int} (h : i.natAbs < 2 ^ 62) : Builtin.Int.intBits i ≤ 64 := intBits_le_64 (by omega) (by omega)
theorem prim_add {u v : V} {a b : Value} {Q : V → Prop} {K : Value → Shared → Prop} (ho : HO hsh H Sys s.heap) (hsys : ∀ a, Sys a → s.heap.get? a ≠ none)
    (hW : seqP H u fun x => seqP H v fun y => x.length + y.length ≤ sizeLine ∧ Q (.lst (x ++ y))) (ra : RV (NN H Sys) s.heap u a) (rb : RV (NN H Sys) s.heap v b)
    (hK : ∀ r val s', Q r → RV (NN H Sys) s'.heap r val → Kp (FZ A Sys) s s' → Frsh (NN H Sys) s s' r val → K val s') :
    wpAny (model prog w) A (binaryOp .Add a b) K E s := by
  obtain ⟨x, e1, hW⟩ := seqP_inv hW
  obtain ⟨y, e2, hW⟩ := seqP_inv hW
  apply seq_val ho ra e1; intro a1 xs n hl hz rx
  apply seq_val ho rb e2; intro b1 ys m hl' hz' ry
  have hlen : xs.size + ys.size ≤ sizeLine := by rw [← rx.size, ← ry.size]; exact hW.1
  have rr : RVs (NN H Sys) s.heap (x ++ y) (xs ++ ys).toList := by rw [Array.toList_append]; exact rx.append ry
  have hzz : (xs ++ ys).size ≤ sizeLine := by rw [Array.size_append]; exact hlen
  exact P.add_list hl hl' (hK _ _ _ hW.2 (new_lst ho hsys rr hzz) (Kp.ofH (HK.push _ _)) (Frsh.mk (s := s) (s' := { s with heap := s.heap.push { cls := .type "list", data := .seq (xs ++ ys) } }) (fresh_size _) rr (HK.push _ _) (IsL.new _ _) hzz)) hlen
theorem prim_mulL {vs : List V} {v : V} {a b : Value} {Q : V → Prop} {K : Value → Shared → Prop} (ho : HO hsh H Sys s.heap) (hsys : ∀ a, Sys a → s.heap.get? a ≠ none)
    (hW : intP v fun n => -(2 ^ 62) ≤ n ∧ n < 2 ^ 62 ∧ vs.length * n.toNat ≤ sizeLine ∧ Q (.lst (repL n.toNat vs))) (ra : RV (NN H Sys) s.heap (.lst vs) a) (rb : RV (NN H Sys) s.heap v b)
    (hK : ∀ r val s', Q r → RV (NN H Sys) s'.heap r val → Kp (FZ A Sys) s s' → Frsh (NN H Sys) s s' r val → K val s') :
    wpAny (model prog w) A (binaryOp .Mult a b) K E s := by
  apply int_val hW rb; intro n t hW
  apply RV.elim ra; intro a1 xs k na hl hz rx
  have hlen : xs.size * n.toNat ≤ sizeLine := by rw [← rx.size]; exact hW.2.2.1
  refine mul_row hl hW.1 hW.2.1 hlen fun r hr => ?_
  have rr : RVs (NN H Sys) s.heap (repL n.toNat vs) r.toList := by rw [hr]; exact rx.repL _
  have hrs : r.size ≤ sizeLine := by
    rw [← Array.length_toList, hr, repL_length, Array.length_toList, Nat.mul_comm]; exact hlen
  exact hK _ _ _ hW.2.2.2 (new_lst ho hsys rr hrs) (Kp.ofH (HK.push _ _)) (Frsh.mk (s := s) (s' := { s with heap := s.heap.push { cls := .type "list", data := .seq r } }) (fresh_size _) rr (HK.push _ _) (IsL.new _ _) hrs)
theorem prim_mulT {x : Str} {v : V} {a b : Value} {Q : V → Prop} {K : Value → Shared → Prop}
    (hW : intP v fun n => 0 ≤ n ∧ n < 2 ^ 30 ∧ x.length * n.toNat ≤ sizeLine ∧ Q (.str ⟨(repL n.toNat x.cps.toList).toArray⟩)) (ra : RV (NN H Sys) s.heap (.str x) a) (rb : RV (NN H Sys) s.heap v b)
    (hK : ∀ r val s', Q r → RV (NN H Sys) s'.heap r val → Kp (FZ A Sys) s s' → Frsh (NN H Sys) s s' r val → K val s') :
    wpAny (model prog w) A (binaryOp .Mult a b) K E s := by
  apply int_val hW rb; intro n t hW
  apply RV.elim ra; intro t' ox
  obtain ⟨h0, h1, h2, hq⟩ := hW
  have hs' : sizeLine = 16777216 := rfl
  have hx := ox.1
  have hsz : x.length * n.toNat ≤ 16777216 := h2
  refine SB.mul ⟨by simp only [Bool.or_eq_false_iff, decide_eq_false_iff_not]; omega, fun h3 _ => ?_, fun h3 _ => ?_⟩ fun t' k => ?_
  · intro h4
    have h5 : (x.length : Int) * n ≤ 16777216 := by
      have : ((x.length * n.toNat : Nat) : Int) ≤ ((16777216 : Nat) : Int) := Int.ofNat_le.mpr hsz
      rwa [Int.natCast_mul, Int.toNat_of_nonneg h0] at this
    have h6 : (2 ^ 63 - 1) / n * n ≤ (2 ^ 63 - 1 : Int) := Int.ediv_mul_le _ (by omega)
    have h7 : (2 ^ 63 - 1 : Int) < ((2 ^ 63 - 1) / n + 1) * n := Int.lt_ediv_add_one_mul_self _ (by omega)
    have h8 : ((2 ^ 63 - 1) / n + 1) * n ≤ (x.length : Int) * n := Int.mul_le_mul_of_nonneg_right (by omega) h0
    omega
  · unfold Builtin.Str.tooLong
    exact decide_eq_false (by omega)
  · rw [txt_mul h0]
    refine hK _ _ _ hq (.str _ _ ⟨?_, fun c hc => ?_⟩) (Kp.tok s _) nofun
    · show (repL n.toNat x.cps.toList).toArray.size ≤ sizeLine
      rw [List.size_toArray, repL_length, Array.length_toList, Nat.mul_comm]; exact h2
    · exact ox.2 c (rep_mem (by simpa using hc))
theorem prim_bin {op : Bop} {u v : V} {a b : Value} {Q : V → Prop} {K : Value → Shared → Prop} (R : RmF d A) (T : TG prog mg mb s.heap) (ho : HO hsh H Sys s.heap) (hsys : ∀ a, Sys a → s.heap.get? a ≠ none)
    (hW : binV H op u v Q) (ra : RV (NN H Sys) s.heap u a) (rb : RV (NN H Sys) s.heap v b)
    (hK : ∀ r val s', Q r → RV (NN H Sys) s'.heap r val → Kp (FZ A Sys) s s' → Frsh (NN H Sys) s s' r val → K val s') :
    wpAny (model prog w) A (binaryOp (opOf op) a b) K E s := by
  have hI : ∀ {i : Int} {t : Tok} {tk : Nat}, Q (.int i) → K (.int i t) { s with toks := tk } := fun q => hK _ _ _ q (.int _ _) (Kp.tok s _) nofun
  cases op with
  | add =>
    cases u with
    | int i =>
      apply int_val hW rb; intro j t' hW
      apply RV.elim ra; intro t
      exact PyProof.Rows.add_int (hI hW)
    | str x =>
      apply str_val hW rb; intro y t' o2 hW
      apply RV.elim ra; intro t o1
      exact PyProof.Rows.add_str (fun t' tk => hK _ _ _ hW.2 (.str _ _ (o1.append o2 hW.1)) (Kp.tok s _) nofun) hW.1
    | lst => refine prim_add (Q := Q) (v := v) ho hsys ?_ ra rb hK; exact hW
    | ref => refine prim_add (Q := Q) (v := v) ho hsys ?_ ra rb hK; exact hW
    | _ => exact False.elim hW
  | sub =>
    apply int_val hW ra; intro i t hW
    apply int_val hW rb; intro j t' hW
    exact PyProof.Rows.sub_int (hI hW)
  | mul =>
    cases u with
    | int i =>
      apply int_val hW rb; intro j t' hW
      apply RV.elim ra; intro t
      refine PyProof.Rows.mul_int (hI hW.2) ?_
      rcases hW.1 with h | h
      · exact IntMulOk.of_left (bits_le h)
      · exact IntMulOk.of_right (bits_le h)
    | lst vs => exact prim_mulL ho hsys hW ra rb hK
    | str x => exact prim_mulT hW ra rb hK
    | _ => exact False.elim hW
  | fdiv =>
    apply int_val hW ra; intro i t hW
    apply int_val hW rb; intro j t' hW
    exact PyProof.Rows.floordiv_int hW.1 (hI hW.2) (.inr (pylong R T))
  | mod =>
    apply int_val hW ra; intro i t hW
    apply int_val hW rb; intro j t' hW
    exact PyProof.Rows.mod_int hW.1 (hI hW.2)
  | pow =>
    apply int_val hW ra; intro i t hW
    apply int_val hW rb; intro j t' hW
    obtain ⟨rfl, hj, hq⟩ := hW
    rcases hj with rfl | rfl
    · exact PyProof.Rows.pow_int (by decide) (by decide) (hI hq)
    · exact PyProof.Rows.pow_int (by decide) (by decide) (hI hq)
end

end Mine
end

section
set_option autoImplicit false
namespace Mine
open PySem

structure PG where
  prog : Program
  w : World
  mg : Str → Option Value
  mb : Str → Option Value
  tbl : Tbl
  gtab : List (String × V)
  ctab : Clss
  xs : List String
  hots : List String
/-- the hash of a key that is a tuple of numbers and texts -/
noncomputable def atHash (w : World) : At → Int
  | .i n => hashInt n
  | .s x => hashStr w x
noncomputable def wHash (w : World) : HFn := fun ks => reduceHash (Builtin.Tuple.tupleHashOf (ks.map (atHash w)))
noncomputable def PG.hf (G : PG) : HFn := wHash G.w

noncomputable def bnames : List String := ["len", "isinstance", "int", "bool", "str", "tuple", "list", "sum", "max", "min", "reversed", "range", "enumerate", "zip", "ValueError"]
noncomputable def btypes : List String := ["int", "bool", "str", "tuple", "list", "reversed", "range", "enumerate", "zip", "ValueError"]
noncomputable def bval (n : String) : Value := if n ∈ btypes then .type n else .builtin n

/-- a row of the table of classes -/
structure CRow (h : Heap) (C N0 : Addr) (mN : Str → Option Value) (n : Nat) (fs : List (String × Ini)) : Prop where
  cls : PyProof.Rows.ClsAt h C N0 mN
  ga : mN "__getattribute__" = none
  sa : mN "__setattr__" = none
  qt : ∀ f ∈ fs, mN (Str.ofString f.1) = none ∧ typeLookup (.type "object") (Str.ofString f.1) = pure none
  ini : ∃ fI oI pm cdv doc qual params body scope, mN "__init__" = some (.ref fI) ∧ h.get? fI = some oI ∧ oI.cls = .type "function" ∧ oI.data = .func (PyProof.Rows.methDef "__init__" qual params body scope pm cdv doc) ∧ h.CodeRec cdv qual ∧ chkIni n fs params body scope = true
theorem CRow.keeps {h h' : Heap} {C N0 : Addr} {mN : Str → Option Value} {n : Nat} {fs : List (String × Ini)} (x : CRow h C N0 mN n fs) (k : HK h h') : CRow h' C N0 mN n fs := by
  obtain ⟨fI, oI, pm, cdv, doc, qual, params, body, scope, h1, h2, h3, h4, h5, h6⟩ := x.ini
  exact ⟨x.cls.keeps k, x.ga, x.sa, x.qt, fI, oI, pm, cdv, doc, qual, params, body, scope, h1, k _ _ h2, h3, h4, h5.keeps k, h6⟩
structure TT (G : PG) (h : Heap) : Prop extends TG G.prog G.mg G.mb h where
  bl : ∀ n ∈ bnames, G.mg (Str.ofString n) = none ∧ G.mb (Str.ofString n) = some (bval n)
  fn : ∀ f fn, G.tbl.lookup f = some fn → ∃ (dr : DefRec) (a : Addr) (o : Obj) (pm code doc : Value), G.mg (Str.ofString f) = some (.ref a) ∧ h.get? a = some o ∧
    o.data = .func (Calls.docDef dr.name dr.params dr.body dr.scope pm code doc) ∧ h.CodeRec code dr.name ∧ chkFn (G.tbl.map (·.1)) G.xs (G.hots.contains f) G.hots fn dr = true
  gl : ∀ x v, G.gtab.lookup x = some v → (∃ i t, v = .int i ∧ G.mg (Str.ofString x) = some (.int i t)) ∨ (∃ u t, v = .str u ∧ SOk u ∧ G.mg (Str.ofString x) = some (.str u t))
  cl : ∀ r ∈ G.ctab, G.mg (Str.ofString r.1) = some (.ref r.2.1) ∧ ∃ N0 mN, CRow h r.2.1 N0 mN r.2.2.1 r.2.2.2
theorem TT.keeps {G : PG} {h h' : Heap} (x : TT G h) (k : HK h h') : TT G h' :=
  ⟨x.toTG.keeps k, x.bl, fun f fn e => let ⟨dr, a, o, pm, code, doc, h1, h2, h3, h4, h5⟩ := x.fn f fn e; ⟨dr, a, o, pm, code, doc, h1, k _ _ h2, h3, h4.keeps k, h5⟩, x.gl
  , fun r hr => let ⟨h1, N0, mN, c⟩ := x.cl r hr; ⟨h1, N0, mN, c.keeps k⟩
  ⟩

noncomputable def PG.cx (G : PG) (d : Nat) : Cx := cxN G.tbl G.gtab G.ctab d

/-- all that a frame's expressions are read against -/
structure Fx0 (G : PG) (d : Nat) (c : Sc) (A : Around) (env : Env) (lay : Nat → Option Place) (Sys : Addr → Prop) (base : Heap) (st : St) (s : Shared) : Prop where
  rm : RmF d A
  eo : EnvOk env c.names c.σ lay
  us : ∀ i p, lay i = some p → i < c.used
  sim : Sim G.hf (TT G) lay Sys (FZ A Sys) base st s.heap
  own : ∃ L, env.frame = some L ∧ ∃ e l, A.frames = some (e :: l) ∧ e.frame = some L
  cold : c.hot = false → A.handled = none
structure Fx (G : PG) (d : Nat) (c : Sc) (A : Around) (env : Env) (lay : Nat → Option Place) (Sys : Addr → Prop) (base : Heap) (st : St) (s : Shared) : Prop extends Fx0 G d c A env lay Sys base st s where
  fr : FrOk A Sys s.heap
  hd : (c.hot = true ∧ c.dead = true) ∨ HdOk A Sys s.heap
theorem Fx.keeps {G : PG} {d : Nat} {c : Sc} {A : Around} {env : Env} {lay : Nat → Option Place} {Sys : Addr → Prop} {base : Heap} {st : St} {s s' : Shared} (x : Fx G d c A env lay Sys base st s) (k : Kp (FZ A Sys) s s') :
    Fx G d c A env lay Sys base st s' := ⟨⟨x.rm, x.eo, x.us, x.sim.kz k.hw, x.own, x.cold⟩, x.fr.kz k.hw, x.hd.imp id fun q => q.kz k.hw⟩
theorem Fx.za {G : PG} {d : Nat} {c : Sc} {A : Around} {env : Env} {lay : Nat → Option Place} {Sys : Addr → Prop} {base : Heap} {st : St} {s : Shared} (x : Fx G d c A env lay Sys base st s) {b : Addr} (q : ZA A b) : Sys b :=
  let ⟨_, e, h1, h2, h3⟩ := q; let ⟨_, _, h4, f⟩ := x.fr; by
    rw [h1] at h4; cases h4
    obtain ⟨_, L, _, g1, g2, _⟩ := f e h2
    rw [h3] at g1; cases g1; exact g2
theorem Fx.nz {G : PG} {d : Nat} {c : Sc} {A : Around} {env : Env} {lay : Nat → Option Place} {Sys : Addr → Prop} {base : Heap} {st : St} {s : Shared} (x : Fx G d c A env lay Sys base st s) {b : Addr} (q : s.heap.get? b = none) : ¬ ZA A b := fun z => x.sim.live b (x.za z) q
theorem Fx.hdo {G : PG} {d : Nat} {c : Sc} {A : Around} {env : Env} {lay : Nat → Option Place} {Sys : Addr → Prop} {base : Heap} {st : St} {s : Shared} (x : Fx G d c A env lay Sys base st s) (q : c.dead = false) : HdOk A Sys s.heap := x.hd.resolve_left fun h => by rw [q] at h; exact ff h.2
theorem Fx.top {G : PG} {d : Nat} {c : Sc} {A : Around} {env : Env} {lay : Nat → Option Place} {Sys : Addr → Prop} {base : Heap} {st : St} {s : Shared} (x : Fx G d c A env lay Sys base st s) : TT G s.heap := let ⟨_, t, k, _⟩ := x.sim.topH; t.keeps k

noncomputable abbrev SE (G : PG) (d : Nat) (c : Sc) (e : E) (x : Expr) : Prop :=
  ∀ {A : Around} {env : Env} {lay : Nat → Option Place} {Sys : Addr → Prop} {base : Heap} {st : St} {s : Shared}, Fx G d c A env lay Sys base st s →
    Snd G.prog G.w G.mg A (NN st.H Sys) Sys s (isFresh e) (eval x env) (WE (G.cx d) e st)

theorem Snd.weak {prog : Program} {w : World} {mg : Str → Option Value} {A : Around} {N Z : Addr → Prop} {s : Shared} {f : Bool} {t : Sem Value} {W : (V → Prop) → (String → Prop) → Prop} (h : Snd prog w mg A N Z s f t W) : Snd prog w mg A N Z s false t W :=
  fun Q X K E hW hK hX => h Q X K E hW (fun v val s' q r k _ => hK v val s' q r k nofun) hX

theorem fresh_keeps {Z : Addr → Prop} {s s' : Shared} (k : Kp Z s s') {a : Addr} (e : s'.heap.get? a = none) : s.heap.get? a = none := k.hw.ext e

section
variable {G : PG} {d : Nat} {c : Sc} {A : Around} {env : Env} {lay : Nat → Option Place} {Sys : Addr → Prop} {base : Heap} {st : St} {s : Shared}

theorem isVar_eq {x : Str} {i : Nat} (h : isVar c x i = true) : c.σ.lookup x = some i ∧ (x == ("__debug__" : Str)) = false := by
  simp only [isVar, Bool.and_eq_true, decide_eq_true_eq, Bool.not_eq_true'] at h; exact h
theorem isGlob_eq {x : Str} {n : String} (h : isGlob c x n = true) : x = Str.ofString n ∧ c.names.lookup x = some .globalImplicit ∧ (x == ("__debug__" : Str)) = false := by
  simp only [isGlob, Bool.and_eq_true, decide_eq_true_eq, Bool.not_eq_true'] at h; exact ⟨h.1.1.1, h.1.1.2, h.1.2⟩
theorem isGlob_hot {x : Str} {n : String} (h : isGlob c x n = true) : hotOk c n = true := ((Bool.and_eq_true _ _).mp h).2
theorem isGlob_cold {x : Str} {n : String} (h : isGlob c x n = true) (hn : coldB.contains n = true) : c.hot = false := by
  have := isGlob_hot h
  unfold hotOk at this
  rw [hn] at this
  cases e : c.hot with
  | false => rfl
  | true => rw [e] at this; exact ff this

theorem ld_glob {M : Model} {E : Value → Shared → Prop} {x : Str} {n : String} {v : Value} {pos : Pos} {Q : Value → Shared → Prop} (F : Fx G d c A env lay Sys base st s) (hg : isGlob c x n = true) (hv : G.mg (Str.ofString n) = some v) (h : Q v s) :
    wpAny M A (eval (.Name x pos) env) Q E s := by
  obtain ⟨rfl, h2, h3⟩ := isGlob_eq hg
  exact Calls.Name_function_global F.eo.kind (F.eo.gl _ h2) (Calls.loadGlobal_global (by rw [F.eo.glob]; exact F.top.g) hv h) h3
theorem ld_bltn {M : Model} {E : Value → Shared → Prop} {x : Str} {n : String} {pos : Pos} {Q : Value → Shared → Prop} (F : Fx G d c A env lay Sys base st s) (hg : isGlob c x n = true) (hn : n ∈ bnames) (h : Q (bval n) s) :
    wpAny M A (eval (.Name x pos) env) Q E s := by
  obtain ⟨rfl, h2, h3⟩ := isGlob_eq hg
  exact Calls.Name_function_global F.eo.kind (F.eo.gl _ h2) (Calls.loadGlobal_builtin (by rw [F.eo.glob]; exact F.top.g) (F.top.bl n hn).1 (by rw [F.eo.blt]; exact F.top.b) (F.top.bl n hn).2 h) h3

theorem se_var {i : Nat} {x : Str} {pos : Pos} (F : Fx G d c A env lay Sys base st s) (hx : isVar c x i = true) : Snd G.prog G.w G.mg A (NN st.H Sys) Sys s false (eval (.Name x pos) env) (WE (G.cx d) (.var i) st) := by
  intro Q X K E hW hK hX
  obtain ⟨h1, h2⟩ := isVar_eq hx
  simp only [we_0, we_1, we_2, we_3, we_4, we_5, we_6, we_7, we_8, we_9, we_10, we_11, we_12, we_13, we_14, we_15, we_16, we_17, we_18, we_19, we_20, we_21, we_22, we_23, we_24, we_25, we_26, we_27, we_28, we_29, we_30, we_31, we_32, we_33, we_34, we_35, we_36, we_37] at hW
  split at hW
  · rename_i v hv
    exact wpAny_Name (ld_var F.eo F.sim h1 hv fun val r => hK v val s hW r (Kp.refl s) nofun) h2
  · exact hW.elim

theorem se_glob {g : String} {x : Str} {pos : Pos} (F : Fx G d c A env lay Sys base st s) (hx : isGlob c x g = true) : Snd G.prog G.w G.mg A (NN st.H Sys) Sys s false (eval (.Name x pos) env) (WE (G.cx d) (.glob g) st) := by
  intro Q X K E hW hK hX
  simp only [we_0, we_1, we_2, we_3, we_4, we_5, we_6, we_7, we_8, we_9, we_10, we_11, we_12, we_13, we_14, we_15, we_16, we_17, we_18, we_19, we_20, we_21, we_22, we_23, we_24, we_25, we_26, we_27, we_28, we_29, we_30, we_31, we_32, we_33, we_34, we_35, we_36, we_37] at hW
  split at hW
  · rename_i v hv
    rcases F.top.gl g v hv with ⟨i, t, rfl, e⟩ | ⟨u, t, rfl, hu, e⟩
    · exact ld_glob F hx e (hK _ _ s hW (.int i t) (Kp.refl s) nofun)
    · exact ld_glob F hx e (hK _ _ s hW (.str u t hu) (Kp.refl s) nofun)
  · exact hW.elim

theorem se_bin {op : Bop} {a b : E} {l r : Expr} {pos : Pos} (F : Fx G d c A env lay Sys base st s) (ha : SE G d c a l) (hb : SE G d c b r) :
    Snd G.prog G.w G.mg A (NN st.H Sys) Sys s true (eval (.BinOp l (opOf op) r pos) env) (WE (G.cx d) (.bin op a b) st) := by
  intro Q X K E hW hK hX
  simp only [we_0, we_1, we_2, we_3, we_4, we_5, we_6, we_7, we_8, we_9, we_10, we_11, we_12, we_13, we_14, we_15, we_16, we_17, we_18, we_19, we_20, we_21, we_22, we_23, we_24, we_25, we_26, we_27, we_28, we_29, we_30, we_31, we_32, we_33, we_34, we_35, we_36, we_37] at hW
  refine wpAny_BinOp ((ha F).weak _ X _ E hW (fun u va s₁ h₁ r₁ k₁ _ => ?_) hX)
  have F₁ := F.keeps k₁
  refine (hb F₁).weak _ X _ E h₁ (fun v vb s₂ h₂ r₂ k₂ _ => ?_) (fun e s' q => hX e s' (Rz.trans k₁ q))
  have F₂ := F₁.keeps k₂
  exact prim_bin F₂.rm F₂.top.toTG F₂.sim.objs F₂.sim.live h₂ (r₁.kz k₂.hw) r₂ fun r val s' q rv k f => hK r val s' q rv ((k₁.trans k₂).trans k) fun _ => f.before (k₁.trans k₂)

theorem truth_bool {H : AH} {N : Addr → Prop} {h : Heap} {u : V} {x : Value} {b : Bool} (r : RV N h u x) (e : truthV H u = some b) : x = .bool b := by
  cases r <;> simp [tv_none, tv_bool, tv_int, tv_str, tv_tup, tv_lst, tv_ref, tv_inst, tv_iref, tv_exc, tv_dct] at e
  subst e; rfl

theorem se_not {a : E} {y : Expr} {pos : Pos} (F : Fx G d c A env lay Sys base st s) (ha : SE G d c a y) :
    Snd G.prog G.w G.mg A (NN st.H Sys) Sys s false (eval (.UnaryOp .Not y pos) env) (WE (G.cx d) (.not a) st) := by
  intro Q X K E hW hK hX
  simp only [we_0, we_1, we_2, we_3, we_4, we_5, we_6, we_7, we_8, we_9, we_10, we_11, we_12, we_13, we_14, we_15, we_16, we_17, we_18, we_19, we_20, we_21, we_22, we_23, we_24, we_25, we_26, we_27, we_28, we_29, we_30, we_31, we_32, we_33, we_34, we_35, we_36, we_37] at hW
  refine wpAny_UnaryOp ((ha F).weak _ X _ E hW (fun u va s₁ h₁ r₁ k₁ _ => ?_) hX)
  split at h₁
  · rename_i b hb
    obtain rfl := truth_bool r₁ hb
    exact not_value (wpAny_truthy_bool (hK _ _ _ h₁ (.bool _) k₁ nofun))
  · exact h₁.elim

theorem se_neg {a : E} {y : Expr} {pos : Pos} (F : Fx G d c A env lay Sys base st s) (ha : SE G d c a y) :
    Snd G.prog G.w G.mg A (NN st.H Sys) Sys s false (eval (.UnaryOp .USub y pos) env) (WE (G.cx d) (.neg a) st) := by
  intro Q X K E hW hK hX
  simp only [we_0, we_1, we_2, we_3, we_4, we_5, we_6, we_7, we_8, we_9, we_10, we_11, we_12, we_13, we_14, we_15, we_16, we_17, we_18, we_19, we_20, we_21, we_22, we_23, we_24, we_25, we_26, we_27, we_28, we_29, we_30, we_31, we_32, we_33, we_34, we_35, we_36, we_37] at hW
  refine wpAny_UnaryOp ((ha F).weak _ X _ E hW (fun u va s₁ h₁ r₁ k₁ _ => ?_) hX)
  split at h₁
  · cases r₁
    exact PyProof.Rows.neg_int (hK _ _ _ h₁ (.int _ _) (k₁.trans (Kp.tok s₁ _)) nofun)
  · exact h₁.elim

theorem se_and {a b : E} {x y : Expr} {pos : Pos} (F : Fx G d c A env lay Sys base st s) (ha : SE G d c a x) (hb : SE G d c b y) :
    Snd G.prog G.w G.mg A (NN st.H Sys) Sys s false (eval (.BoolOp .And [x, y] pos) env) (WE (G.cx d) (.and a b) st) := by
  intro Q X K E hW hK hX
  simp only [we_0, we_1, we_2, we_3, we_4, we_5, we_6, we_7, we_8, we_9, we_10, we_11, we_12, we_13, we_14, we_15, we_16, we_17, we_18, we_19, we_20, we_21, we_22, we_23, we_24, we_25, we_26, we_27, we_28, we_29, we_30, we_31, we_32, we_33, we_34, we_35, we_36, we_37] at hW
  refine wpAny_And2 ((ha F).weak _ X _ E hW (fun u va s₁ h₁ r₁ k₁ _ => ?_) hX)
  split at h₁
  · rename_i hb'
    obtain rfl := truth_bool r₁ hb'
    refine wpAny_truthy_bool ?_
    rw [if_pos rfl]
    exact (hb (F.keeps k₁)).weak _ X _ E h₁ (fun v val s' q r k _ => hK v val s' q r (k₁.trans k) nofun) fun e s' q => hX e s' (Rz.trans k₁ q)
  · rename_i hb'
    obtain rfl := truth_bool r₁ hb'
    refine wpAny_truthy_bool ?_
    rw [if_neg (by simp)]
    exact hK _ _ _ h₁ r₁ k₁ nofun
  · exact h₁.elim
theorem se_or {a b : E} {x y : Expr} {pos : Pos} (F : Fx G d c A env lay Sys base st s) (ha : SE G d c a x) (hb : SE G d c b y) :
    Snd G.prog G.w G.mg A (NN st.H Sys) Sys s false (eval (.BoolOp .Or [x, y] pos) env) (WE (G.cx d) (.or a b) st) := by
  intro Q X K E hW hK hX
  simp only [we_0, we_1, we_2, we_3, we_4, we_5, we_6, we_7, we_8, we_9, we_10, we_11, we_12, we_13, we_14, we_15, we_16, we_17, we_18, we_19, we_20, we_21, we_22, we_23, we_24, we_25, we_26, we_27, we_28, we_29, we_30, we_31, we_32, we_33, we_34, we_35, we_36, we_37] at hW
  refine wpAny_Or2 ((ha F).weak _ X _ E hW (fun u va s₁ h₁ r₁ k₁ _ => ?_) hX)
  split at h₁
  · rename_i hb'
    obtain rfl := truth_bool r₁ hb'
    refine wpAny_truthy_bool ?_
    rw [if_pos rfl]
    exact hK _ _ _ h₁ r₁ k₁ nofun
  · rename_i hb'
    obtain rfl := truth_bool r₁ hb'
    refine wpAny_truthy_bool ?_
    rw [if_neg (by simp)]
    exact (hb (F.keeps k₁)).weak _ X _ E h₁ (fun v val s' q r k _ => hK v val s' q r (k₁.trans k) nofun) fun e s' q => hX e s' (Rz.trans k₁ q)
  · exact h₁.elim

end

end Mine
end

section
set_option autoImplicit false
namespace Mine
open PySem

/-- a value that leaves its frame -/
theorem frz_ok {hsh : HFn} {H B : AH} {Sys Sys' : Addr → Prop} {h : Heap} (ho : HO hsh H Sys' h) (hsub : ∀ a, Sys a → Sys' a) (hB : ∀ a, B a ≠ none → H a ≠ none) (hown : ∀ a, H a ≠ none → B a = none → ¬ Sys a) :
    ∀ (n : Nat), (∀ (v v' : V) (x : Value), frz H B n v = some v' → RV (NN H Sys') h v x → RV (NN B Sys) h v' x) ∧ (∀ (vs vs' : List V) (xs : List Value), frzs H B n vs = some vs' → RVs (NN H Sys') h vs xs → RVs (NN B Sys) h vs' xs) := by
  have hN : ∀ a, ¬ NN H Sys' a → ¬ NN B Sys a := fun a q q' => q (q'.elim (fun e => .inl (hB a e)) fun e => .inr (hsub a e))
  have all : ∀ n, (∀ (v v' : V) (x : Value), frz H B n v = some v' → RV (NN H Sys') h v x → RV (NN B Sys) h v' x) → (∀ (vs vs' : List V) (xs : List Value), frzs H B n vs = some vs' → RVs (NN H Sys') h vs xs → RVs (NN B Sys) h vs' xs) := by
    intro n hv vs
    induction vs with
    | nil => intro vs' xs e r; simp [fzs_nil, fzs_cons] at e; subst e; cases r; exact .nil
    | cons v vs ih =>
      intro vs' xs e r
      cases r with
      | cons r1 r2 =>
        simp only [fzs_nil, fzs_cons] at e
        split at e
        · rename_i x' xs' e1 e2
          cases e
          exact .cons (hv _ _ _ e1 r1) (ih _ _ e2 r2)
        · cases e
  intro n
  induction n with
  | zero =>
    have h0 : ∀ (v v' : V) (x : Value), frz H B 0 v = some v' → RV (NN H Sys') h v x → RV (NN B Sys) h v' x := fun v v' x e _ => by simp [fz_zero, fz_none, fz_bool, fz_int, fz_str, fz_tup, fz_lst, fz_inst, fz_ref, fz_iref] at e
    exact ⟨h0, all 0 h0⟩
  | succ n ih =>
    have hs : ∀ (v v' : V) (x : Value), frz H B (n + 1) v = some v' → RV (NN H Sys') h v x → RV (NN B Sys) h v' x := by
      intro v v' x e r
      cases r with
      | none => simp [fz_zero, fz_none, fz_bool, fz_int, fz_str, fz_tup, fz_lst, fz_inst, fz_ref, fz_iref] at e; subst e; exact .none
      | bool b => simp [fz_zero, fz_none, fz_bool, fz_int, fz_str, fz_tup, fz_lst, fz_inst, fz_ref, fz_iref] at e; subst e; exact .bool b
      | int i t => simp [fz_zero, fz_none, fz_bool, fz_int, fz_str, fz_tup, fz_lst, fz_inst, fz_ref, fz_iref] at e; subst e; exact .int i t
      | str u t o => simp [fz_zero, fz_none, fz_bool, fz_int, fz_str, fz_tup, fz_lst, fz_inst, fz_ref, fz_iref] at e; subst e; exact .str u t o
      | tup h1 h2 h3 h4 =>
        simp only [fz_zero, fz_none, fz_bool, fz_int, fz_str, fz_tup, fz_lst, fz_inst, fz_ref, fz_iref, Option.map_eq_some_iff] at e
        obtain ⟨vs', e1, rfl⟩ := e
        exact .tup (hN _ h1) h2 h3 (ih.2 _ _ _ e1 h4)
      | lst h1 h2 h3 h4 =>
        simp only [fz_zero, fz_none, fz_bool, fz_int, fz_str, fz_tup, fz_lst, fz_inst, fz_ref, fz_iref, Option.map_eq_some_iff] at e
        obtain ⟨vs', e1, rfl⟩ := e
        exact .lst (hN _ h1) h2 h3 (ih.2 _ _ _ e1 h4)
      | iref h1 h2 =>
        rename_i xa a C ns
        simp only [fz_zero, fz_none, fz_bool, fz_int, fz_str, fz_tup, fz_lst, fz_inst, fz_ref, fz_iref] at e
        split at e
        · cases e; exact .iref (hN _ h1) h2
        · rename_i hBa
          split at e
          · rename_i c ns' vs hH
            by_cases hns : ns' = ns
            · rw [if_pos hns] at e
              simp only [Option.map_eq_some_iff] at e
              obtain ⟨vs', e1, rfl⟩ := e
              cases ho _ _ hH with
              | inst g1 g2 =>
                rw [hns] at g1
                refine .inst (hN _ h1) (fun q => ?_) h2 g1 (ih.2 _ _ _ e1 g2)
                rcases q with q | q
                · exact q hBa
                · exact hown a (by rw [hH]; exact nofun) hBa q
            · rw [if_neg hns] at e; cases e
          · cases e
      | inst h1 h2 h3 h5 h6 =>
        simp only [fz_zero, fz_none, fz_bool, fz_int, fz_str, fz_tup, fz_lst, fz_inst, fz_ref, fz_iref, Option.map_eq_some_iff] at e
        obtain ⟨vs', e1, rfl⟩ := e
        exact .inst (hN _ h1) (hN _ h2) h3 h5 (ih.2 _ _ _ e1 h6)
      | ref a =>
        simp only [fz_zero, fz_none, fz_bool, fz_int, fz_str, fz_tup, fz_lst, fz_inst, fz_ref, fz_iref] at e
        split at e
        · cases e; exact .ref a
        · rename_i hBa
          split at e
          · rename_i vs hH
            simp only [Option.map_eq_some_iff] at e
            obtain ⟨vs', e1, rfl⟩ := e
            cases ho _ _ hH with
            | list h1 h2 h3 =>
              refine .lst (fun q => ?_) h1 h2 (ih.2 _ _ _ e1 h3)
              rcases q with q | q
              · exact q hBa
              · exact hown a (by rw [hH]; simp) hBa q
          · cases e
    exact ⟨hs, all (n + 1) hs⟩


/-- what a call leaves to its caller -/
structure Given (hsh : HFn) (H H' : AH) (Sys Sys' : Addr → Prop) (s s' : Shared) : Prop where
  ho : HO hsh H' Sys' s'.heap
  sub : ∀ a, Sys a → Sys' a
  stay : ∀ a, H a ≠ none → H' a ≠ none
  own : ∀ a, H' a ≠ none → H a = none → s.heap.get? a = none
  dis : ∀ a, Sys' a → H' a = none
theorem Given.before {hsh : HFn} {H H' : AH} {Sys Sys' Z : Addr → Prop} {s₀ s s' : Shared} (g : Given hsh H H' Sys Sys' s s') (k : Kp Z s₀ s) : Given hsh H H' Sys Sys' s₀ s' := ⟨g.ho, g.sub, g.stay, fun a q q' => k.hw.ext (g.own a q q'), g.dis⟩
end Mine
end

section
set_option autoImplicit false
namespace Mine
open PySem

theorem dictP_inv {H : AH} {u : V} {P : Nat → List (List At × V) → Prop} (h : dictP H u P) : ∃ a kvs, u = .ref a ∧ H a = some (.dict kvs) ∧ P a kvs := by
  cases u with
  | ref a =>
    have h : (match H a with
      | some (.dict kvs) => P a kvs
      | _ => False) := h
    cases e : H a with
    | none => rw [e] at h; exact h.elim
    | some o =>
      rw [e] at h
      cases o with
      | dict kvs => exact ⟨a, kvs, rfl, e, h⟩
      | _ => exact h.elim
  | _ => exact False.elim h
theorem noDict {hsh : HFn} {H : AH} {Sys : Addr → Prop} {h : Heap} {u : V} {P : Nat → List (List At × V) → Prop} (ho : HO hsh H Sys h) (hW : dictP H u P) : False := by
  obtain ⟨a, kvs, _, e, _⟩ := dictP_inv hW
  cases ho a _ e
end Mine
end

section
set_option autoImplicit false
namespace Mine
open PySem PySem.F
end Mine
end

section
set_option autoImplicit false
namespace Mine
open PySem

noncomputable def RdP (h : Heap) (v : V) (x : Value) : Prop := ∀ d, toD v = some d → (∃ as, Reads h x d as) ∧ d.canLay0 = true
noncomputable def RdPs (h : Heap) (vs : List V) (xs : List Value) : Prop := ∀ ds, toDs vs = some ds → (∃ as, ReadsAll h xs ds as) ∧ PyData.canLayAll0 ds = true
section
variable {N : Addr → Prop} {h : Heap}
theorem rd_none : RdP h .none .none := fun _ e => by cases (show some PyData.none = some _ from e); exact ⟨⟨_, .none⟩, by simp [PyData.canLay0]⟩
theorem rd_bool (b : Bool) : RdP h (.bool b) (.bool b) := fun _ e => by cases (show some (PyData.bool b) = some _ from e); exact ⟨⟨_, .bool b⟩, by simp [PyData.canLay0]⟩
theorem rd_int (i : Int) (t : Tok) : RdP h (.int i) (.int i t) := fun _ e => by cases (show some (PyData.int i) = some _ from e); exact ⟨⟨_, .int i _⟩, by simp [PyData.canLay0]⟩
theorem rd_str (u : Str) (t : Tok) (ho : SOk u) : RdP h (.str u) (.str u t) := fun _ e => by cases (show some (PyData.str u) = some _ from e); exact ⟨⟨_, .str u _⟩, by simp [PyData.canLay0, ho.strOk]⟩
theorem rd_tup {a : Addr} {xs : Array Value} {n : Nat} {vs : List V} (h2 : IsT h a xs n) (i : RdPs h vs xs.toList) : RdP h (.tup vs) (.ref a) := fun d e => by
  obtain ⟨ds, e1, rfl⟩ := Option.map_eq_some_iff.mp (show (toDs vs).map PyData.tuple = some d from e)
  obtain ⟨⟨as, ra⟩, hc⟩ := i ds e1
  exact ⟨⟨_, .tuple h2 rfl rfl ra⟩, by simpa [PyData.canLay0] using hc⟩
theorem rd_lst {a : Addr} {xs : Array Value} {n : Nat} {vs : List V} (h2 : IsL h a xs n) (i : RdPs h vs xs.toList) : RdP h (.lst vs) (.ref a) := fun d e => by
  obtain ⟨ds, e1, rfl⟩ := Option.map_eq_some_iff.mp (show (toDs vs).map PyData.list = some d from e)
  obtain ⟨⟨as, ra⟩, hc⟩ := i ds e1
  exact ⟨⟨_, .list h2 rfl rfl ra⟩, by simpa [PyData.canLay0] using hc⟩
theorem rd_nil : RdPs h [] [] := fun _ e => by cases (show some ([] : List PyData) = some _ from e); exact ⟨⟨_, .nil⟩, by simp [PyData.canLayAll0]⟩
theorem rd_cons {v : V} {x : Value} {vs : List V} {xs : List Value} (i : RdP h v x) (j : RdPs h vs xs) : RdPs h (v :: vs) (x :: xs) := fun ds e => by
  have e : (match toD v, toDs vs with
    | some d, some ds => some (d :: ds)
    | _, _ => none) = some ds := e
  cases e1 : toD v with
  | none => rw [e1] at e; cases e
  | some d =>
    cases e2 : toDs vs with
    | none => rw [e1, e2] at e; cases e
    | some ds' =>
      rw [e1, e2] at e
      cases e
      obtain ⟨⟨as, ra⟩, ha⟩ := i d e1
      obtain ⟨⟨bs, rb⟩, hb⟩ := j ds' e2
      exact ⟨⟨_, .cons ra rb⟩, by simp [PyData.canLayAll0, ha, hb]⟩
theorem reads_of (v : V) (x : Value) (d : PyData) (r : RV N h v x) : toD v = some d → (∃ as, Reads h x d as) ∧ d.canLay0 = true :=
  RV.rec (motive_1 := fun v x _ => RdP h v x) (motive_2 := fun vs xs _ => RdPs h vs xs) rd_none rd_bool rd_int rd_str (fun _ h2 _ _ i => rd_tup h2 i) (fun _ h2 _ _ i => rd_lst h2 i) (fun _ _ e => nomatch e)
    (fun _ _ _ e => nomatch e) (fun _ _ _ _ _ _ _ e => nomatch e)
    rd_nil (fun _ _ i j => rd_cons i j) r d
theorem readsAll_of (vs : List V) (xs : List Value) (ds : List PyData) (r : RVs N h vs xs) : toDs vs = some ds → (∃ as, ReadsAll h xs ds as) ∧ PyData.canLayAll0 ds = true :=
  r.ind (P := fun vs xs => RdPs h vs xs) rd_nil (fun a j => rd_cons (fun d => reads_of _ _ d a) j) ds
end

theorem reads_res {hsh : HFn} {H : AH} {Sys : Addr → Prop} {h : Heap} (ho : HO hsh H Sys h) {v : V} {x : Value} {d : PyData} (r : RV (NN H Sys) h v x) (e : toD (resV H v) = some d) : (∃ as, Reads h x d as) ∧ d.canLay0 = true := by
  cases v with
  | ref a =>
    have e : toD (match H a with
      | some (.list vs) => .lst vs
      | _ => .ref a) = some d := e
    split at e
    · rename_i vs hv
      cases r
      cases ho a _ hv with
      | list h1 h2 h3 => exact rd_lst h1 (fun ds => readsAll_of vs _ ds h3) d e
    · cases e
  | _ => exact reads_of _ _ _ r e

section
variable {hsh : HFn} {prog : Program} {w : World} {A : Around} {E : Value → Shared → Prop} {s : Shared} {H : AH} {Sys : Addr → Prop} {mg mb : Str → Option Value} {d : Nat}

theorem prim_eq {u v : V} {a b : Value} {Q : Bool → Prop} {K : Value → Shared → Prop} (R : RmF d A) (ho : HO hsh H Sys s.heap) (hW : eqV H u v Q) (ra : RV (NN H Sys) s.heap u a) (rb : RV (NN H Sys) s.heap v b)
    (hK : ∀ r, Q r → K (.bool r) s) : wpAny (model prog w) A (compareOp .Eq a b) K E s := by
  unfold eqV at hW
  split at hW
  · rename_i x y e1 e2
    obtain ⟨⟨as, r1⟩, c1⟩ := reads_res ho ra e1
    obtain ⟨⟨bs, r2⟩, c2⟩ := reads_res ho rb e2
    exact SeqAt.compareEq_reads r1 r2 c1 c2 (by have := R.units; have := hW.1; omega) (hK _ hW.2)
  · exact hW.elim
theorem prim_ne {u v : V} {a b : Value} {Q : Bool → Prop} {K : Value → Shared → Prop} (R : RmF d A) (ho : HO hsh H Sys s.heap) (hW : eqV H u v (fun r => Q (!r))) (ra : RV (NN H Sys) s.heap u a) (rb : RV (NN H Sys) s.heap v b)
    (hK : ∀ r, Q r → K (.bool r) s) : wpAny (model prog w) A (compareOp .NotEq a b) K E s := by
  unfold eqV at hW
  split at hW
  · rename_i x y e1 e2
    obtain ⟨⟨as, r1⟩, c1⟩ := reads_res ho ra e1
    obtain ⟨⟨bs, r2⟩, c2⟩ := reads_res ho rb e2
    exact SeqAt.compareNe_reads r1 r2 c1 c2 (by have := R.units; have := hW.1; omega) (hK _ hW.2)
  · exact hW.elim

theorem none_val {N : Addr → Prop} {h : Heap} {v : V} {x : Value} {W : Prop} {P : Value → Prop} (hW : noneP v W) (r : RV N h v x) (k : W → P .none) : P x := by
  cases r with
  | none => exact k hW
  | _ => exact False.elim hW
theorem isNone_val {N : Addr → Prop} {h : Heap} {v : V} {x : Value} (r : RV N h v x) : (x == Value.none) = isNone v := by
  cases r <;> rfl
theorem prim_in {u v : V} {a b : Value} {Q : Bool → Prop} {K : Value → Shared → Prop} (R : RmF d A) (hH : hsh = wHash w) (ho : HO hsh H Sys s.heap) (hW : inV H u v Q) (ra : RV (NN H Sys) s.heap u a) (rb : RV (NN H Sys) s.heap v b)
    (hK : ∀ r s', Q r → Kp (FZ A Sys) s s' → K (.bool r) s') : wpAny (model prog w) A (compareOp .In a b) K E s ∧ (∀ K' : Value → Shared → Prop, (∀ r s', Q r → Kp (FZ A Sys) s s' → K' (.bool (!r)) s') → wpAny (model prog w) A (compareOp .NotIn a b) K' E s) := by
  cases v with
  | str y =>
    apply RV.elim rb; intro t o
    apply str_val hW ra; intro x t' o' hW
    exact ⟨PyProof.Rows.in_str (hK _ s hW (Kp.refl s)), fun K' h' => PyProof.Rows.notIn_str (h' _ s hW (Kp.refl s))⟩
  | ref b =>
    apply RV.elim rb
    exact False.elim (noDict (u := .ref b) (P := fun _ kvs => keyP u fun ks => Q (dlook ks kvs).isSome) ho hW)
  | _ => exact False.elim hW

theorem prim_cmp {op : Cop} {u v : V} {a b : Value} {Q : Bool → Prop} {K : Value → Shared → Prop} (R : RmF d A) (hH : hsh = wHash w) (ho : HO hsh H Sys s.heap) (hW : cmpV H op u v Q) (ra : RV (NN H Sys) s.heap u a) (rb : RV (NN H Sys) s.heap v b)
    (hK : ∀ r s', Q r → Kp (FZ A Sys) s s' → K (.bool r) s') : wpAny (model prog w) A (compareOp (copOf op) a b) K E s := by
  have hk0 : ∀ r, Q r → K (.bool r) s := fun r q => hK r s q (Kp.refl s)
  cases op with
  | eq => exact prim_eq R ho hW ra rb hk0
  | ne => exact prim_ne R ho hW ra rb hk0
  | lt =>
    apply int_val hW ra; intro i t hW
    apply int_val hW rb; intro j t' hW
    exact PyProof.Rows.lt_int (hk0 _ hW)
  | le =>
    apply int_val hW ra; intro i t hW
    apply int_val hW rb; intro j t' hW
    exact PyProof.Rows.le_int (hk0 _ hW)
  | gt =>
    apply int_val hW ra; intro i t hW
    apply int_val hW rb; intro j t' hW
    exact PyProof.Rows.gt_int (hk0 _ hW)
  | ge =>
    apply int_val hW ra; intro i t hW
    apply int_val hW rb; intro j t' hW
    exact PyProof.Rows.ge_int (hk0 _ hW)
  | is =>
    apply none_val hW rb; intro hW
    refine is_none ?_
    rw [isNone_val ra]; exact hk0 _ hW
  | isnot =>
    apply none_val hW rb; intro hW
    refine isNot_none ?_
    rw [isNone_val ra]; exact hk0 _ hW
  | isin => exact (prim_in R hH ho hW ra rb hK).1
  | notin => exact (prim_in (Q := fun r => Q (!r)) (K := fun _ _ => True) R hH ho hW ra rb fun _ _ _ _ => trivial).2 K fun r s' q k => by exact hK _ s' q k
end

section
variable {G : PG} {d : Nat} {c : Sc} {A : Around} {env : Env} {lay : Nat → Option Place} {Sys : Addr → Prop} {base : Heap} {st : St} {s : Shared}

/-- a chain of comparisons -/
noncomputable abbrev SCh (G : PG) (d : Nat) (c : Sc) (ch : Ch) (ops : List CmpOp) (rs : List Expr) : Prop :=
  ∀ {A : Around} {env : Env} {lay : Nat → Option Place} {Sys : Addr → Prop} {base : Heap} {st : St} {s : Shared}, Fx G d c A env lay Sys base st s →
    ∀ (u : V) (a : Value) (pos : Pos), RV (NN st.H Sys) s.heap u a → ∀ (Q : Bool → Prop) (X : String → Prop), WCh (G.cx d) ch st u Q X →
      (∀ (K E : Value → Shared → Prop), (∀ r s', Q r → Kp (FZ A Sys) s s' → K (.bool r) s') → (∀ e s', Rz G.mg A Sys s X e s' → E e s') → wpAny (model G.prog G.w) A (compareChain pos a ops (evalEach rs env)) K E s) ∧
      (∀ (K : Bool → Shared → Prop) (E : Value → Shared → Prop), (∀ r s', Q r → Kp (FZ A Sys) s s' → K r s') → (∀ e s', Rz G.mg A Sys s X e s' → E e s') → wpAny (model G.prog G.w) A (testChain pos a ops (evalEach rs env)) K E s)

theorem sch_one {op : Cop} {e : E} {x : Expr} (he : SE G d c e x) : SCh G d c (.one op e) [copOf op] [x] := by
  intro A env lay Sys base st s F u a pos ru Q X hW
  simp only [wch_0, wch_1] at hW
  have key : ∀ (K E : Value → Shared → Prop), (∀ r s', Q r → Kp (FZ A Sys) s s' → K (.bool r) s') → (∀ e s', Rz G.mg A Sys s X e s' → E e s') →
      wpAny (model G.prog G.w) A (eval x env) (fun b s₁ => wpAny (model G.prog G.w) A (compareOp (copOf op) a b) K E s₁) E s := by
    intro K E hK hX
    refine (he F).weak _ X _ E hW (fun v b s₁ h₁ r₁ k₁ _ => ?_) hX
    exact prim_cmp (F.keeps k₁).rm rfl (F.keeps k₁).sim.objs h₁ (ru.kz k₁.hw) r₁ fun r s' q k => hK r s' q (k₁.trans k)
  refine ⟨fun K E hK hX => PyProof.Rows.chain_last (key K E hK hX), fun K E hK hX => ?_⟩
  exact PyProof.Rows.test_last (key (fun v s' => wpAny (model G.prog G.w) A (truthy v) K E s') E (fun r s' q k => wpAny_truthy_bool (hK r s' q k)) hX)
theorem sch_more {op : Cop} {e : E} {x x2 : Expr} {ch : Ch} {o2 : CmpOp} {ops : List CmpOp} {xs : List Expr} (he : SE G d c e x) (hc : SCh G d c ch (o2 :: ops) (x2 :: xs)) : SCh G d c (.more op e ch) (copOf op :: o2 :: ops) (x :: x2 :: xs) := by
  intro A env lay Sys base st s F u a pos ru Q X hW
  simp only [wch_0, wch_1] at hW
  constructor
  · intro K E hK hX
    refine PyProof.Rows.chain_link ((he F).weak _ X _ E hW (fun v b s₁ h₁ r₁ k₁ _ => ?_) hX)
    refine prim_cmp (F.keeps k₁).rm rfl (F.keeps k₁).sim.objs h₁ (ru.kz k₁.hw) r₁ fun r s₂ q k₂ => wpAny_truthy_bool ?_
    have k₁ := k₁.trans k₂
    cases r
    · simp only [Bool.false_eq_true, if_false] at q ⊢; exact hK false s₂ q k₁
    · simp only [if_true] at q ⊢
      exact (hc (F.keeps k₁) v b pos (r₁.kz k₂.hw) Q X q).1 K E (fun r s' q k => hK r s' q (k₁.trans k)) fun e s' q => hX e s' (Rz.trans k₁ q)
  · intro K E hK hX
    refine PyProof.Rows.test_link ((he F).weak _ X _ E hW (fun v b s₁ h₁ r₁ k₁ _ => ?_) hX)
    refine prim_cmp (F.keeps k₁).rm rfl (F.keeps k₁).sim.objs h₁ (ru.kz k₁.hw) r₁ fun r s₂ q k₂ => wpAny_truthy_bool ?_
    have k₁ := k₁.trans k₂
    cases r
    · simp only [Bool.false_eq_true, if_false] at q ⊢; exact hK false s₂ q k₁
    · simp only [if_true] at q ⊢
      exact (hc (F.keeps k₁) v b pos (r₁.kz k₂.hw) Q X q).2 K E (fun r s' q k => hK r s' q (k₁.trans k)) fun e s' q => hX e s' (Rz.trans k₁ q)
end

end Mine
end

section
set_option autoImplicit false
namespace Mine
open PySem

section
variable {hsh : HFn} {prog : Program} {w : World} {A : Around} {E : Value → Shared → Prop} {s : Shared} {H : AH} {Sys : Addr → Prop} {mg mb : Str → Option Value} {d : Nat}

theorem idx_eq (n : Nat) (i : Int) : idx n i = seqIndex? i n := by
  unfold idx seqIndex?
  by_cases h : 0 ≤ i
  · rw [if_pos h]
    have h' : ¬ i < 0 := by omega
    simp only [h', if_false]
    by_cases h2 : i < n
    · simp [h, h2]
    · simp [h2]
  · rw [if_neg h]
    have h' : i < 0 := by omega
    simp only [h', if_true]
    by_cases h2 : 0 ≤ i + n
    · have h3 : i + n < n := by omega
      simp [h2, h3]
    · simp [h2]
theorem idx_some {n k : Nat} {i : Int} (h : idx n i = some k) : k < n ∧ -(n : Int) ≤ i ∧ i < n ∧ (0 ≤ i → k = i.toNat) ∧ (i < 0 → k = (i + n).toNat) := by
  unfold idx at h
  split at h
  · split at h
    · cases h; omega
    · cases h
  · split at h
    · cases h; omega
    · cases h

theorem get_list {l : Addr} {xs : Array Value} {n k : Nat} {i : Int} {u : Tok} {x : Value} {K : Value → Shared → Prop} (hl : IsL s.heap l xs n) (hz : xs.size ≤ sizeLine) (hi : idx xs.size i = some k) (hx : xs[k]? = some x)
    (h : K x s) : wpAny (model prog w) A (getItem (.ref l) (.int i u)) K E s := by
  obtain ⟨h1, h2, h3, h4, h5⟩ := idx_some hi
  have hs : sizeLine = 16777216 := rfl
  by_cases h0 : 0 ≤ i
  · exact wpAny_getItem_list hl.isList h0 (by omega) (by rw [← h4 h0]; exact hx) h
  · exact wpAny_getItem_list_neg hl.isList (by omega) (by omega) (by omega) (by rw [← h5 (by omega)]; exact hx) h

/-- an item of a row -/
inductive ItemAt (vs : List V) (i : Int) (Q : V → Prop) : Prop
  | mk (n r) : idx vs.length i = some n → vs[n]? = some r → Q r → ItemAt vs i Q
theorem item_of {vs : List V} {i : Int} {Q : V → Prop} (h : match idx vs.length i with
    | some n => (match vs[n]? with
      | some v => Q v
      | none => False)
    | none => False) : ItemAt vs i Q := by
  cases e : idx vs.length i with
  | none => rw [e] at h; exact False.elim h
  | some n =>
    rw [e] at h
    have h : (match vs[n]? with
      | some v => Q v
      | none => False) := h
    cases e' : vs[n]? with
    | none => rw [e'] at h; exact False.elim h
    | some v => rw [e'] at h; exact ⟨n, v, e, e', h⟩
theorem sub_lst {vs : List V} {v : V} {Q : V → Prop} (h : subV H (.lst vs) v Q) : intP v (ItemAt vs · Q) := by
  cases v with
  | int i => exact item_of h
  | _ => exact h
theorem sub_tup {vs : List V} {v : V} {Q : V → Prop} (h : subV H (.tup vs) v Q) : intP v (ItemAt vs · Q) := by
  cases v with
  | int i => exact item_of h
  | _ => exact h
theorem sub_str {x : Str} {v : V} {Q : V → Prop} (h : subV H (.str x) v Q) : intP v (fun i => ∃ n c, idx x.length i = some n ∧ x.cps.toList[n]? = some c ∧ Q (.str ⟨#[c]⟩)) := by
  cases v with
  | int i =>
    have h : (match idx x.length i with
      | some n => (match x.cps.toList[n]? with
        | some c => Q (.str ⟨#[c]⟩)
        | none => False)
      | none => False) := h
    cases e : idx x.length i with
    | none => rw [e] at h; exact False.elim h
    | some n =>
      rw [e] at h
      have h : (match x.cps.toList[n]? with
        | some c => Q (.str ⟨#[c]⟩)
        | none => False) := h
      cases e' : x.cps.toList[n]? with
      | none => rw [e'] at h; exact False.elim h
      | some v => rw [e'] at h; exact ⟨n, v, e, e', h⟩
  | _ => exact h
theorem sub_refE {a : Nat} {v : V} {Q : V → Prop} : subV H (.ref a) v Q = (match H a with
    | some (.dict kvs) => keyP v fun ks => (match dlook ks kvs with
      | some v => Q v
      | none => False)
    | some (.list vs) => (match v with
      | .int i => (match idx vs.length i with
        | some n => (match vs[n]? with
          | some v => Q v
          | none => False)
        | none => False)
      | _ => False)
    | _ => False) := rfl
theorem sub_ref {a : Nat} {v : V} {Q : V → Prop} (h : subV H (.ref a) v Q) : (∃ vs, H a = some (.list vs) ∧ intP v (ItemAt vs · Q)) ∨ ∃ kvs, H a = some (.dict kvs) ∧ keyP v fun ks => (match dlook ks kvs with
      | some v => Q v
      | none => False) := by
  rw [sub_refE] at h
  cases e : H a with
  | none => rw [e] at h; exact False.elim h
  | some o =>
    rw [e] at h
    cases o with
    | dict kvs => exact .inr ⟨_, rfl, h⟩
    | list vs => exact .inl ⟨_, rfl, by cases v with
      | int i => exact item_of h
      | _ => exact h⟩
    | inst => exact False.elim h
section
variable {value slice : Expr} {vs : List V} {v : V} {b : Value} {Q : V → Prop} {K : Value → Shared → Prop}
theorem sub_row {l : Addr} {xs : Array Value} {n : Nat} (hs : ∀ o i, subscripted slice false o i = operate [o, i] (getItem o i)) (h1 : IsL s.heap l xs n) (h2 : xs.size ≤ sizeLine) (h3 : RVs (NN H Sys) s.heap vs xs.toList) (hW : intP v (ItemAt vs · Q)) (rb : RV (NN H Sys) s.heap v b)
    (hK : ∀ r val s', Q r → RV (NN H Sys) s'.heap r val → Kp (FZ A Sys) s s' → K val s') : wpAny (model prog w) A (PyProof.Rows.subscriptTail value slice (.ref l) b) K E s := by
  apply int_val hW rb; intro i t hW
  obtain ⟨n, r, hn, hr, q⟩ := hW
  obtain ⟨x, e, rx⟩ := h3.get n hr
  exact PyProof.Rows.tail_any h1.isList.typeIs slot_list_getitem.lookup (get_list h1 h2 (h3.size ▸ hn) (by rw [← Array.getElem?_toList]; exact e) (hK _ _ _ q rx (Kp.refl s))) (hs _ _)
theorem prim_sub {u : V} {a : Value} (R : RmF d A) (hH : hsh = wHash w) (ho : HO hsh H Sys s.heap) (hp : plainX slice = true) (hW : subV H u v Q) (ra : RV (NN H Sys) s.heap u a) (rb : RV (NN H Sys) s.heap v b)
    (hK : ∀ r val s', Q r → RV (NN H Sys) s'.heap r val → Kp (FZ A Sys) s s' → K val s') : wpAny (model prog w) A (PyProof.Rows.subscriptTail value slice a b) K E s := by
  have hs : ∀ o i, subscripted slice false o i = operate [o, i] (getItem o i) := fun o i => by
    cases slice <;> first | rfl | exact ff hp
  cases u with
  | ref ad =>
    apply RV.elim ra
    rcases sub_ref hW with ⟨vs, hl, hW⟩ | ⟨kvs, hd, hW⟩
    · cases ho _ _ hl with
      | list h1 h2 h3 => exact sub_row hs h1 h2 h3 hW rb hK
    · skip
      cases ho _ _ hd
  | str x =>
    apply RV.elim ra; intro t hx
    apply int_val (sub_str hW) rb; intro i t' hW
    obtain ⟨n, cc, hn, hc, q⟩ := hW
    obtain ⟨h1, h2, h3, _⟩ := idx_some hn
    have hs' : x.length ≤ 16777216 := hx.1
    refine PyProof.Rows.tail_any (typeIs_str s x t) F.slot_str_getitem.lookup (PyProof.Rows.getItem_str (c := cc) ?_ ?_ (hK _ _ _ q (.str _ _ (hx.one (List.mem_of_getElem? hc))) (Kp.tok s _))) (hs _ _)
    · simp only [Bool.or_eq_false_iff, decide_eq_false_iff_not]; omega
    · rw [← idx_eq, hn]; simpa using hc
  | lst vs =>
    apply RV.elim ra; intro l xs n h0 h1 h2 h3
    exact sub_row hs h1 h2 h3 (sub_lst hW) rb hK
  | tup vs =>
    apply RV.elim ra; intro l xs m h0 h1 h2 h3
    apply int_val (sub_tup hW) rb; intro i t' hW
    obtain ⟨n, r, hn, hr, q⟩ := hW
    obtain ⟨x, e, rx⟩ := h3.get n hr
    rw [h3.size] at hn
    obtain ⟨a1, a2, a3, _⟩ := idx_some hn
    have hs' : xs.size ≤ 16777216 := h2
    exact PyProof.Rows.tail_any (IsT.isTup h1).typeIs F.slot_tuple_getitem.lookup (PyProof.Rows.getItem_tuple (IsT.isTup h1) (by omega) (by omega) (by rw [← idx_eq]; exact hn) (by simpa using e) (hK _ _ _ q rx (Kp.refl s))) (hs _ _)
  | _ => exact False.elim hW
end
theorem isi_list {t : Ty} {l : Addr} {xs : Array Value} {n : Nat} {b : Bool} {K : Value → Shared → Prop} (h1 : IsL s.heap l xs n) (hW : isV t (.lst []) = some b) (j0 : ∀ b', some b' = some b → K (.bool b') s) (j1 : ∀ b', some b' = some b → K (.bool b') { s with toks := s.toks + 1 }) :
    wpAny (model prog w) A (call (.builtin "isinstance") [.ref l, .type (tyName t)]) K E s := by
  have hl := IsL.isList h1
  have jx : ∀ {P : Prop}, (none : Option Bool) = some b → P := fun e => by cases e
  cases t with
  | int => exact IsiPair.isList_int hl (fun _ _ e => e) (j1 _ hW)
  | bool => exact IsiPair.isList_bool hl (fun _ _ e => e) (j1 _ hW)
  | str => exact IsiPair.isList_str hl (fun _ _ e => e) (j1 _ hW)
  | tuple => exact IsiPair.isList_tuple hl (fun _ _ e => e) (j1 _ hW)
  | list => exact IsiPair.isList_list hl (fun _ _ e => e) (j0 _ hW)
  | _ => exact jx hW
theorem prim_isi {t : Ty} {u : V} {a : Value} {b : Bool} {K : Value → Shared → Prop} (ho : HO hsh H Sys s.heap) (hW : isT H t u = some b) (ra : RV (NN H Sys) s.heap u a) (hK : ∀ s', Kp (FZ A Sys) s s' → K (.bool b) s') :
    wpAny (model prog w) A (call (.builtin "isinstance") [a, .type (tyName t)]) K E s := by
  have j0 : ∀ b', some b' = some b → K (.bool b') s := fun b' e => by cases e; exact hK s (Kp.refl s)
  have jx : ∀ {P : Prop}, (none : Option Bool) = some b → P := fun e => by cases e
  have j1 : ∀ b', some b' = some b → K (.bool b') { s with toks := s.toks + 1 } := fun b' e => by cases e; exact hK _ (Kp.tok s _)
  cases u with
  | none =>
    apply RV.elim ra
    cases t with
    | int => exact IsiPair.NoneType_int (j1 _ hW)
    | bool => exact IsiPair.NoneType_bool (j1 _ hW)
    | str => exact IsiPair.NoneType_str (j1 _ hW)
    | tuple => exact IsiPair.NoneType_tuple (j1 _ hW)
    | list => exact IsiPair.NoneType_list (j1 _ hW)
    | _ => exact jx hW
  | bool x =>
    apply RV.elim ra
    cases t with
    | int => exact IsiPair.bool_int (j0 _ hW)
    | bool => exact IsiPair.bool_bool (j0 _ hW)
    | str => exact IsiPair.bool_str (j1 _ hW)
    | tuple => exact IsiPair.bool_tuple (j1 _ hW)
    | list => exact IsiPair.bool_list (j1 _ hW)
    | _ => exact jx hW
  | int i =>
    apply RV.elim ra; intro tt
    cases t with
    | int => exact IsiPair.int_int (j0 _ hW)
    | bool => exact IsiPair.int_bool (j1 _ hW)
    | str => exact IsiPair.int_str (j1 _ hW)
    | tuple => exact IsiPair.int_tuple (j1 _ hW)
    | list => exact IsiPair.int_list (j1 _ hW)
    | _ => exact jx hW
  | str x =>
    apply RV.elim ra; intro tt hx
    cases t with
    | int => exact IsiPair.str_int (j1 _ hW)
    | bool => exact IsiPair.str_bool (j1 _ hW)
    | str => exact IsiPair.str_str (j0 _ hW)
    | tuple => exact IsiPair.str_tuple (j1 _ hW)
    | list => exact IsiPair.str_list (j1 _ hW)
    | _ => exact jx hW
  | tup vs =>
    apply RV.elim ra; intro l xs n h0 h1 h2 h3
    have hl := IsT.isTuple h1
    cases t with
    | int => exact IsiPair.isTuple_int hl (fun _ _ e => e) (j1 _ hW)
    | bool => exact IsiPair.isTuple_bool hl (fun _ _ e => e) (j1 _ hW)
    | str => exact IsiPair.isTuple_str hl (fun _ _ e => e) (j1 _ hW)
    | tuple => exact IsiPair.isTuple_tuple hl (fun _ _ e => e) (j0 _ hW)
    | list => exact IsiPair.isTuple_list hl (fun _ _ e => e) (j1 _ hW)
    | _ => exact jx hW
  | lst vs =>
    apply RV.elim ra; intro l xs n h0 h1 h2 h3
    refine isi_list h1 ?_ j0 j1
    cases t <;> exact hW
  | ref ad =>
    apply RV.elim ra
    have hW : (match H ad with
      | some (.list _) => isV t (.lst [])
      | _ => none) = some b := hW
    split at hW
    · rename_i vs hv
      cases ho _ _ hv with
      | list h1 h2 h3 => exact isi_list h1 hW j0 j1
    · cases hW
  | dct => cases ra
  | inst => exact jx (by cases t <;> exact hW)
  | iref => exact jx (by cases t <;> exact hW)
  | exc => exact jx (by cases t <;> exact hW)

theorem le_lim {n : Nat} (h : n ≤ sizeLine) : (n : Int) < 2 ^ 63 := Int.lt_of_le_of_lt (Int.ofNat_le.mpr h) (by decide)
theorem prim_len {u : V} {a : Value} {n : Nat} {K : Value → Shared → Prop} (ho : HO hsh H Sys s.heap) (hW : sizeV H u = some n) (ra : RV (NN H Sys) s.heap u a) (hK : ∀ t s', Kp (FZ A Sys) s s' → K (.int n t) s') :
    wpAny (model prog w) A (call (.builtin "len") [a]) K E s := by
  have j : ∀ {m : Nat}, some m = some n → ∀ t tk, K (.int m t) { s with toks := tk } := fun e t tk => by cases e; exact hK _ _ (Kp.tok s _)
  cases u with
  | str x =>
    apply RV.elim ra; intro t hx
    exact PyProof.Rows.len_str (Int.not_le.mpr (le_lim hx.1)) (j hW _ _)
  | tup vs =>
    apply RV.elim ra; intro l xs m h0 h1 h2 h3
    exact PyProof.Rows.len_tuple (IsT.isTup h1) (le_lim h2) (j (h3.size ▸ hW) _ _)
  | lst vs =>
    apply RV.elim ra; intro l xs m h0 h1 h2 h3
    exact Calls.call_len_list (IsL.isList h1) (le_lim h2) (j (h3.size ▸ hW) _ _)
  | ref ad =>
    apply RV.elim ra
    have hW : (match H ad with
      | some (.list vs) => some vs.length
      | _ => none) = some n := hW
    split at hW
    · rename_i vs hv
      cases ho _ _ hv with
      | list h1 h2 h3 => exact Calls.call_len_list (IsL.isList h1) (le_lim h2) (j (h3.size ▸ hW) _ _)
    · cases hW
  | _ => cases hW
end

end Mine
end

section
set_option autoImplicit false
namespace Mine
open PySem

theorem starEach_cons {x : Expr} {r : List Expr} {env : Env} (h : noStar x = true) : starEach (x :: r) env = (false, eval x env) :: starEach r env := by
  cases x <;> first | rfl | exact ff h
theorem star_plain (pos : Pos) (env : Env) : ∀ (xs : List Expr), xs.all noStar = true → (backTo pos (starEach xs env)).any (·.1) = false
  | [], _ => rfl
  | x :: r, h => by
    simp only [List.all_cons, Bool.and_eq_true] at h
    rw [starEach_cons h.1]
    have := star_plain pos env r h.2
    simpa [backTo] using this

noncomputable abbrev SEs (G : PG) (d : Nat) (c : Sc) (es : Es) (xs : List Expr) : Prop :=
  xs.all noStar = true ∧ ∀ {A : Around} {env : Env} {lay : Nat → Option Place} {Sys : Addr → Prop} {base : Heap} {st : St} {s : Shared}, Fx G d c A env lay Sys base st s →
    ∀ (pos : Pos) (Q : List V → Prop) (X : String → Prop) (K : List Value → Shared → Prop) (E : Value → Shared → Prop), WEs (G.cx d) es st Q X →
      (∀ vs vals s', Q vs → RVs (NN st.H Sys) s'.heap vs vals → Kp (FZ A Sys) s s' → K vals s') → (∀ e s', Rz G.mg A Sys s X e s' → E e s') →
      wpAny (model G.prog G.w) A (spliced (backTo pos (starEach xs env))) K E s

theorem ses_nil {G : PG} {d : Nat} {c : Sc} : SEs G d c .nil [] :=
  ⟨rfl, fun {A env lay Sys base st s} _ pos Q X K E hW hK _ => wpAny_items_nil (hK [] [] s (by simpa [wes_0, wes_1] using hW) .nil (Kp.refl s))⟩
theorem ses_cons {G : PG} {d : Nat} {c : Sc} {e : E} {es : Es} {x : Expr} {xs : List Expr} (hn : noStar x = true) (he : SE G d c e x) (hes : SEs G d c es xs) : SEs G d c (.cons e es) (x :: xs) := by
  refine ⟨by simp [hn, hes.1], fun {A env lay Sys base st s} F pos Q X K E hW hK hX => ?_⟩
  simp only [wes_0, wes_1] at hW
  refine wpAny_items_cons ((he F).weak _ X _ E hW (fun v a s₁ h₁ r₁ k₁ _ => ?_) hX) (starEach_cons hn)
  exact hes.2 (F.keeps k₁) pos _ X _ E h₁ (fun vs vals s' q r k => hK (v :: vs) (a :: vals) s' q (.cons (r₁.kz k.hw) r) (k₁.trans k)) fun e s' q => hX e s' (Rz.trans k₁ q)

section
variable {G : PG} {d : Nat} {c : Sc} {A : Around} {env : Env} {lay : Nat → Option Place} {Sys : Addr → Prop} {base : Heap} {st : St} {s : Shared}

theorem se_list {es : Es} {xs : List Expr} {pos : Pos} (F : Fx G d c A env lay Sys base st s) (h : SEs G d c es xs) : Snd G.prog G.w G.mg A (NN st.H Sys) Sys s true (eval (.List xs pos) env) (WE (G.cx d) (.list es) st) := by
  intro Q X K E hW hK hX
  simp only [we_0, we_1, we_2, we_3, we_4, we_5, we_6, we_7, we_8, we_9, we_10, we_11, we_12, we_13, we_14, we_15, we_16, we_17, we_18, we_19, we_20, we_21, we_22, we_23, we_24, we_25, we_26, we_27, we_28, we_29, we_30, we_31, we_32, we_33, we_34, we_35, we_36, we_37] at hW
  refine wpAny_List (h.2 F pos _ X _ E hW (fun vs vals s₁ h₁ r₁ k₁ => ?_) hX)
  have F₁ := F.keeps k₁
  have hl := r₁.length
  refine ⟨by rw [← hl]; exact h₁.1, hK _ _ _ h₁.2 (new_lst F₁.sim.objs F₁.sim.live (by simpa using r₁) (by simpa [← hl] using h₁.1)) (k₁.trans (Kp.ofH (HK.push _ _))) fun _ => ?_⟩
  exact (Frsh.mk (s := s₁) (s' := { s₁ with heap := s₁.heap.push { cls := .type "list", data := .seq vals.toArray } }) (fresh_size _) (by simpa using r₁) (HK.push _ _) (IsL.new _ _) (by simpa [← hl] using h₁.1)).before k₁
theorem se_tup {es : Es} {xs : List Expr} {k : Nat} {pos : Pos} (F : Fx G d c A env lay Sys base st s) (h : SEs G d c es xs) : Snd G.prog G.w G.mg A (NN st.H Sys) Sys s false (eval (.Tuple xs k pos) env) (WE (G.cx d) (.tup es) st) := by
  intro Q X K E hW hK hX
  simp only [we_0, we_1, we_2, we_3, we_4, we_5, we_6, we_7, we_8, we_9, we_10, we_11, we_12, we_13, we_14, we_15, we_16, we_17, we_18, we_19, we_20, we_21, we_22, we_23, we_24, we_25, we_26, we_27, we_28, we_29, we_30, we_31, we_32, we_33, we_34, we_35, we_36, we_37] at hW
  refine wpAny_Tuple (h.2 F pos _ X _ E hW (fun vs vals s₁ h₁ r₁ k₁ => ?_) hX)
  have F₁ := F.keeps k₁
  have hl := r₁.length
  exact ⟨by rw [← hl]; exact h₁.1, hK _ _ _ h₁.2 (new_tup F₁.sim.objs F₁.sim.live (by simpa using r₁) (by simpa [← hl] using h₁.1)) (k₁.trans (Kp.ofH (HK.push _ _))) nofun⟩

theorem se_sub {a i : E} {y z : Expr} {pos : Pos} (F : Fx G d c A env lay Sys base st s) (ha : SE G d c a y) (hi : SE G d c i z) (hp : plainX z = true) :
    Snd G.prog G.w G.mg A (NN st.H Sys) Sys s false (eval (.Subscript y z pos) env) (WE (G.cx d) (.sub a i) st) := by
  intro Q X K E hW hK hX
  simp only [we_0, we_1, we_2, we_3, we_4, we_5, we_6, we_7, we_8, we_9, we_10, we_11, we_12, we_13, we_14, we_15, we_16, we_17, we_18, we_19, we_20, we_21, we_22, we_23, we_24, we_25, we_26, we_27, we_28, we_29, we_30, we_31, we_32, we_33, we_34, we_35, we_36, we_37] at hW
  refine PyProof.Rows.Subscript_ ((ha F).weak _ X _ E hW (fun u va s₁ h₁ r₁ k₁ _ => ?_) hX)
  refine (hi (F.keeps k₁)).weak _ X _ E h₁ (fun v vb s₂ h₂ r₂ k₂ _ => ?_) fun e s' q => hX e s' (Rz.trans k₁ q)
  exact prim_sub ((F.keeps k₁).keeps k₂).rm rfl ((F.keeps k₁).keeps k₂).sim.objs hp h₂ (r₁.kz k₂.hw) r₂ fun r val s' q rv k => hK r val s' q rv ((k₁.trans k₂).trans k) nofun

theorem ev_call_b {n : String} {y : Str} {p pos : Pos} {z : Expr} {xs : List Expr} {es : Es} {Q : List V → Prop} {X : String → Prop} {K E : Value → Shared → Prop} (F : Fx G d c A env lay Sys base st s) (hg : isGlob c y n = true) (hn : n ∈ bnames)
    (hv : bval n = .builtin n) (h : SEs G d c es (z :: xs)) (hW : WEs (G.cx d) es st Q X)
    (hK : ∀ vs vals s', Q vs → RVs (NN st.H Sys) s'.heap vs vals → Kp (FZ A Sys) s s' → wpAny (model G.prog G.w) A (call (.builtin n) vals) K E s') (hX : ∀ e s', Rz G.mg A Sys s X e s' → E e s') :
    wpAny (model G.prog G.w) A (eval (.Call (.Name y p) (z :: xs) [] pos) env) K E s := by
  rw [arm_eval_Call_Name']
  refine wpAny_bind (ld_bltn F hg hn ?_)
  rw [hv]
  refine Calls.callWith_builtin (star_plain pos env _ h.1) ?_
  have e : backTo pos (starEach (z :: xs) env) = (false, eval z env) :: backTo pos (starEach xs env) := by
    have := h.1
    simp only [List.all_cons, Bool.and_eq_true] at this
    rw [starEach_cons this.1]; rfl
  have hs := h.2 F pos Q X (fun vals s' => wpAny (model G.prog G.w) A (call (.builtin n) vals) K E s') E hW (fun vs vals s' q r k => hK vs vals s' q r k) hX
  rw [e] at hs ⊢
  exact Calls.evalArgs_plain hs
theorem ev_call_t {n : String} {y : Str} {p pos : Pos} {z : Expr} {xs : List Expr} {es : Es} {Q : List V → Prop} {X : String → Prop} {K E : Value → Shared → Prop} (F : Fx G d c A env lay Sys base st s) (hg : isGlob c y n = true) (hn : n ∈ bnames)
    (hv : bval n = .type n) (h : SEs G d c es (z :: xs)) (hW : WEs (G.cx d) es st Q X)
    (hK : ∀ vs vals s', Q vs → RVs (NN st.H Sys) s'.heap vs vals → Kp (FZ A Sys) s s' → wpAny (model G.prog G.w) A (call (.type n) vals) K E s') (hX : ∀ e s', Rz G.mg A Sys s X e s' → E e s') :
    wpAny (model G.prog G.w) A (eval (.Call (.Name y p) (z :: xs) [] pos) env) K E s := by
  rw [arm_eval_Call_Name']
  refine wpAny_bind (ld_bltn F hg hn ?_)
  rw [hv]
  refine callWith_type (star_plain pos env _ h.1) ?_
  have e : backTo pos (starEach (z :: xs) env) = (false, eval z env) :: backTo pos (starEach xs env) := by
    have := h.1
    simp only [List.all_cons, Bool.and_eq_true] at this
    rw [starEach_cons this.1]; rfl
  have hs := h.2 F pos Q X (fun vals s' => wpAny (model G.prog G.w) A (call (.type n) vals) K E s') E hW (fun vs vals s' q r k => hK vs vals s' q r k) hX
  rw [e] at hs ⊢
  exact Calls.evalArgs_plain hs

theorem se_len {a : E} {y : Str} {z : Expr} {p pos : Pos} (F : Fx G d c A env lay Sys base st s) (hg : isGlob c y "len" = true) (hz : noStar z = true) (ha : SE G d c a z) :
    Snd G.prog G.w G.mg A (NN st.H Sys) Sys s false (eval (.Call (.Name y p) [z] [] pos) env) (WE (G.cx d) (.len a) st) := by
  intro Q X K E hW hK hX
  simp only [we_0, we_1, we_2, we_3, we_4, we_5, we_6, we_7, we_8, we_9, we_10, we_11, we_12, we_13, we_14, we_15, we_16, we_17, we_18, we_19, we_20, we_21, we_22, we_23, we_24, we_25, we_26, we_27, we_28, we_29, we_30, we_31, we_32, we_33, we_34, we_35, we_36, we_37] at hW
  refine ev_call_b (es := .cons a .nil) (X := X) (Q := fun vs => ∃ u, vs = [u] ∧ match sizeV st.H u with | some n => Q (.int n) | none => False) F hg (by decide) rfl (ses_cons hz ha ses_nil) ?_ ?_ hX
  · simp only [wes_0, wes_1, List.cons.injEq, and_true, exists_eq_left']; exact hW
  · rintro vs vals s₁ ⟨u, rfl, h₁⟩ r k
    cases r with
    | cons r1 r2 =>
      cases r2
      split at h₁
      · rename_i n hn
        exact prim_len (F.keeps k).sim.objs hn r1 fun t s' k' => hK _ _ _ h₁ (.int _ _) (k.trans k') nofun
      · exact h₁.elim

theorem se_isi {a : E} {t : Ty} {y u : Str} {z : Expr} {p p' pos : Pos} (F : Fx G d c A env lay Sys base st s) (hg : isGlob c y "isinstance" = true) (hz : noStar z = true) (ha : SE G d c a z) (ht : isGlob c u (tyName t) = true) (htn : tyName t ∈ bnames) (htv : bval (tyName t) = .type (tyName t)) :
    Snd G.prog G.w G.mg A (NN st.H Sys) Sys s false (eval (.Call (.Name y p) [z, .Name u p'] [] pos) env) (WE (G.cx d) (.isinst a t) st) := by
  intro Q X K E hW hK hX
  simp only [we_0, we_1, we_2, we_3, we_4, we_5, we_6, we_7, we_8, we_9, we_10, we_11, we_12, we_13, we_14, we_15, we_16, we_17, we_18, we_19, we_20, we_21, we_22, we_23, we_24, we_25, we_26, we_27, we_28, we_29, we_30, we_31, we_32, we_33, we_34, we_35, we_36, we_37] at hW
  rw [arm_eval_Call_Name']
  refine wpAny_bind (ld_bltn F hg (by decide) ?_)
  show wpAny _ _ (callWith pos (.builtin "isinstance") [] _ _) _ _ _
  refine Calls.callWith_builtin (star_plain pos env [z, .Name u p'] (by rw [List.all_cons, hz]; rfl)) ?_
  have e : backTo pos (starEach [z, .Name u p'] env) = (false, eval z env) :: [(false, eval (.Name u p') env)] := by
    rw [starEach_cons hz]; rfl
  rw [e]
  refine Calls.evalArgs_plain (Calls.spliced_cons ((ha F).weak _ X _ E hW (fun v va s₁ h₁ r₁ k₁ _ => ?_) hX))
  refine Calls.spliced_cons (ld_bltn (F.keeps k₁) ht htn (Calls.spliced_nil ?_))
  rw [htv]
  split at h₁
  · rename_i b hb
    exact prim_isi (F.keeps k₁).sim.objs hb r₁ fun s' k' => hK _ _ _ h₁ (.bool _) (k₁.trans k') nofun
  · exact h₁.elim

/-- a test -/
noncomputable abbrev ST (G : PG) (d : Nat) (c : Sc) (e : E) (x : Expr) : Prop :=
  ∀ {A : Around} {env : Env} {lay : Nat → Option Place} {Sys : Addr → Prop} {base : Heap} {st : St} {s : Shared}, Fx G d c A env lay Sys base st s →
    ∀ (Q : Bool → Prop) (X : String → Prop) (K : Bool → Shared → Prop) (E : Value → Shared → Prop), WE (G.cx d) e st (fun u => match truthV st.H u with
      | some b => Q b
      | none => False) X → (∀ b s', Q b → Kp (FZ A Sys) s s' → K b s') → (∀ e s', Rz G.mg A Sys s X e s' → E e s') → wpAny (model G.prog G.w) A (isTrue x env (eval x env)) K E s

theorem st_of {e : E} {x : Expr} (he : SE G d c e x) (hx : ∀ (env : Env) (w : Sem Value), isTrue x env w = (do let v ← w; standAt x.pos; holding [v] (truthy v))) : ST G d c e x := by
  intro A env lay Sys base st s F Q X K E hW hK hX
  refine wpAny_isTrue_value ((he F).weak _ X _ E hW (fun u va s₁ h₁ r₁ k₁ _ => ?_) hX) (hx _ _)
  split at h₁
  · rename_i b hb
    obtain rfl := truth_bool r₁ hb
    exact wpAny_truthy_bool (hK b s₁ h₁ k₁)
  · exact h₁.elim

theorem WE_cg {C : Cx} {e : E} {st : St} {Q Q' : V → Prop} {X : String → Prop} (hW : WE C e st Q X) (h : ∀ v, Q v = Q' v) : WE C e st Q' X := by
  have : Q = Q' := funext h
  subst this; exact hW

theorem st_not {a : E} {y : Expr} {pos : Pos} (ha : ST G d c a y) : ST G d c (.not a) (.UnaryOp .Not y pos) := by
  intro A env lay Sys base st s F Q X K E hW hK hX
  simp only [we_0, we_1, we_2, we_3, we_4, we_5, we_6, we_7, we_8, we_9, we_10, we_11, we_12, we_13, we_14, we_15, we_16, we_17, we_18, we_19, we_20, we_21, we_22, we_23, we_24, we_25, we_26, we_27, we_28, we_29, we_30, we_31, we_32, we_33, we_34, we_35, we_36, we_37] at hW
  refine wpAny_isTrue_Not (ha F (fun b => Q (!b)) X _ E ?_ (fun b s' q k => hK _ s' q k) hX)
  refine WE_cg hW fun u => ?_
  cases truthV st.H u <;> rfl

theorem se_ite {t a b : E} {y z u : Expr} {pos : Pos} (F : Fx G d c A env lay Sys base st s) (ht : ST G d c t y) (ha : SE G d c a z) (hb : SE G d c b u) :
    Snd G.prog G.w G.mg A (NN st.H Sys) Sys s false (eval (.IfExp y z u pos) env) (WE (G.cx d) (.ite t a b) st) := by
  intro Q X K E hW hK hX
  simp only [we_0, we_1, we_2, we_3, we_4, we_5, we_6, we_7, we_8, we_9, we_10, we_11, we_12, we_13, we_14, we_15, we_16, we_17, we_18, we_19, we_20, we_21, we_22, we_23, we_24, we_25, we_26, we_27, we_28, we_29, we_30, we_31, we_32, we_33, we_34, we_35, we_36, we_37] at hW
  refine wpAny_IfExp (ht F (fun r => if r then WE (G.cx d) a st Q X else WE (G.cx d) b st Q X) X _ E ?_ (fun r s₁ q k => ?_) hX)
  · refine WE_cg hW fun u => ?_
    cases truthV st.H u with
    | none => rfl
    | some r => cases r <;> rfl
  · cases r
    · simp only [Bool.false_eq_true, if_false] at q ⊢
      exact (hb (F.keeps k)).weak _ X _ E q (fun v val s' q' r' k' _ => hK v val s' q' r' (k.trans k') nofun) fun e s' q' => hX e s' (Rz.trans k q')
    · simp only [if_true] at q ⊢
      exact (ha (F.keeps k)).weak _ X _ E q (fun v val s' q' r' k' _ => hK v val s' q' r' (k.trans k') nofun) fun e s' q' => hX e s' (Rz.trans k q')

/-- BoolOps of more than two -/
theorem wpAny_AndN {M : Model} {E : Value → Shared → Prop} {x y : Expr} {r : List Expr} {pos : Pos} {Q : Value → Shared → Prop}
    (h : wpAny M A (eval x env) (fun v s₁ => wpAny M A (truthy v) (fun t s₂ => if t then wpAny M A (eval (.BoolOp .And (y :: r) pos) env) Q E s₂ else Q v s₂) E s₁) E s) :
    wpAny M A (eval (.BoolOp .And (x :: y :: r) pos) env) Q E s := by
  show wpAny M A (do
    let v ← eval x env
    standAt pos
    let t ← holding [v] (truthy v)
    match BoolOp.And, t with
    | .And, false | .Or, true => pure v
    | _, _ => boolOp pos .And (evalEach (y :: r) env)) Q E s
  refine wpAny_bind (wpAny_mono h (fun v s₁ h₁ => wpAny_bind (wpAny_standAt (wpAny_bind (wpAny_holding (wpAny_mono h₁ (fun t s₂ h₂ => ?_) fun _ _ x => x))))) fun _ _ x => x)
  cases t with
  | false => exact wpAny_pure h₂
  | true => exact h₂
theorem wpAny_OrN {M : Model} {E : Value → Shared → Prop} {x y : Expr} {r : List Expr} {pos : Pos} {Q : Value → Shared → Prop}
    (h : wpAny M A (eval x env) (fun v s₁ => wpAny M A (truthy v) (fun t s₂ => if t then Q v s₂ else wpAny M A (eval (.BoolOp .Or (y :: r) pos) env) Q E s₂) E s₁) E s) :
    wpAny M A (eval (.BoolOp .Or (x :: y :: r) pos) env) Q E s := by
  show wpAny M A (do
    let v ← eval x env
    standAt pos
    let t ← holding [v] (truthy v)
    match BoolOp.Or, t with
    | .And, false | .Or, true => pure v
    | _, _ => boolOp pos .Or (evalEach (y :: r) env)) Q E s
  refine wpAny_bind (wpAny_mono h (fun v s₁ h₁ => wpAny_bind (wpAny_standAt (wpAny_bind (wpAny_holding (wpAny_mono h₁ (fun t s₂ h₂ => ?_) fun _ _ x => x))))) fun _ _ x => x)
  cases t with
  | false => exact h₂
  | true => exact wpAny_pure h₂
theorem se_andN {a b : E} {x y : Expr} {r : List Expr} {pos : Pos} (F : Fx G d c A env lay Sys base st s) (ha : SE G d c a x) (hb : SE G d c b (.BoolOp .And (y :: r) pos)) :
    Snd G.prog G.w G.mg A (NN st.H Sys) Sys s false (eval (.BoolOp .And (x :: y :: r) pos) env) (WE (G.cx d) (.and a b) st) := by
  intro Q X K E hW hK hX
  simp only [we_0, we_1, we_2, we_3, we_4, we_5, we_6, we_7, we_8, we_9, we_10, we_11, we_12, we_13, we_14, we_15, we_16, we_17, we_18, we_19, we_20, we_21, we_22, we_23, we_24, we_25, we_26, we_27, we_28, we_29, we_30, we_31, we_32, we_33, we_34, we_35, we_36, we_37] at hW
  refine wpAny_AndN ((ha F).weak _ X _ E hW (fun u va s₁ h₁ r₁ k₁ _ => ?_) hX)
  split at h₁
  · rename_i hb'
    obtain rfl := truth_bool r₁ hb'
    refine wpAny_truthy_bool ?_
    rw [if_pos rfl]
    exact (hb (F.keeps k₁)).weak _ X _ E h₁ (fun v val s' q r k _ => hK v val s' q r (k₁.trans k) nofun) fun e s' q => hX e s' (Rz.trans k₁ q)
  · rename_i hb'
    obtain rfl := truth_bool r₁ hb'
    refine wpAny_truthy_bool ?_
    rw [if_neg (by simp)]
    exact hK _ _ _ h₁ r₁ k₁ nofun
  · exact h₁.elim
theorem se_orN {a b : E} {x y : Expr} {r : List Expr} {pos : Pos} (F : Fx G d c A env lay Sys base st s) (ha : SE G d c a x) (hb : SE G d c b (.BoolOp .Or (y :: r) pos)) :
    Snd G.prog G.w G.mg A (NN st.H Sys) Sys s false (eval (.BoolOp .Or (x :: y :: r) pos) env) (WE (G.cx d) (.or a b) st) := by
  intro Q X K E hW hK hX
  simp only [we_0, we_1, we_2, we_3, we_4, we_5, we_6, we_7, we_8, we_9, we_10, we_11, we_12, we_13, we_14, we_15, we_16, we_17, we_18, we_19, we_20, we_21, we_22, we_23, we_24, we_25, we_26, we_27, we_28, we_29, we_30, we_31, we_32, we_33, we_34, we_35, we_36, we_37] at hW
  refine wpAny_OrN ((ha F).weak _ X _ E hW (fun u va s₁ h₁ r₁ k₁ _ => ?_) hX)
  split at h₁
  · rename_i hb'
    obtain rfl := truth_bool r₁ hb'
    refine wpAny_truthy_bool ?_
    rw [if_pos rfl]
    exact hK _ _ _ h₁ r₁ k₁ nofun
  · rename_i hb'
    obtain rfl := truth_bool r₁ hb'
    refine wpAny_truthy_bool ?_
    rw [if_neg (by simp)]
    exact (hb (F.keeps k₁)).weak _ X _ E h₁ (fun v val s' q r k _ => hK v val s' q r (k₁.trans k) nofun) fun e s' q => hX e s' (Rz.trans k₁ q)
  · exact h₁.elim

theorem st_and {a b : E} {x y : Expr} {r : List Expr} {pos p' : Pos} (ha : ST G d c a x) (hb : ST G d c b (.BoolOp .And (y :: r) p')) : ST G d c (.and a b) (.BoolOp .And (x :: y :: r) pos) := by
  intro A env lay Sys base st s F Q X K E hW hK hX
  simp only [we_0, we_1, we_2, we_3, we_4, we_5, we_6, we_7, we_8, we_9, we_10, we_11, we_12, we_13, we_14, we_15, we_16, we_17, we_18, we_19, we_20, we_21, we_22, we_23, we_24, we_25, we_26, we_27, we_28, we_29, we_30, we_31, we_32, we_33, we_34, we_35, we_36, we_37] at hW
  have hW := WE_cg (Q' := fun u => match truthV st.H u with
      | some r => if r then WE (G.cx d) b st (fun u => match truthV st.H u with
        | some b => Q b
        | none => False) X else Q false
      | none => False) hW fun u => by
    cases e : truthV st.H u with
    | none => rfl
    | some r => cases r <;> simp only [e] <;> rfl
  refine wpAny_isTrue_BoolOp (wpAny_allTrue_And_cons (ha F _ X _ E hW (fun t s₁ q k => ?_) hX))
  cases t
  · simp only [Bool.false_eq_true, if_false] at q ⊢; exact hK false s₁ q k
  · simp only [if_true] at q ⊢
    have := hb (F.keeps k) Q X K E q (fun b s' q' k' => hK b s' q' (k.trans k')) fun e s' q' => hX e s' (Rz.trans k q')
    rw [arm_isTrue_BoolOp] at this
    exact this
theorem st_and2 {a b : E} {x y : Expr} {pos : Pos} (ha : ST G d c a x) (hb : ST G d c b y) : ST G d c (.and a b) (.BoolOp .And [x, y] pos) := by
  intro A env lay Sys base st s F Q X K E hW hK hX
  simp only [we_0, we_1, we_2, we_3, we_4, we_5, we_6, we_7, we_8, we_9, we_10, we_11, we_12, we_13, we_14, we_15, we_16, we_17, we_18, we_19, we_20, we_21, we_22, we_23, we_24, we_25, we_26, we_27, we_28, we_29, we_30, we_31, we_32, we_33, we_34, we_35, we_36, we_37] at hW
  have hW := WE_cg (Q' := fun u => match truthV st.H u with
      | some r => if r then WE (G.cx d) b st (fun u => match truthV st.H u with
        | some b => Q b
        | none => False) X else Q false
      | none => False) hW fun u => by
    cases e : truthV st.H u with
    | none => rfl
    | some r => cases r <;> simp only [e] <;> rfl
  refine wpAny_isTrue_BoolOp (wpAny_allTrue_And_cons (ha F _ X _ E hW (fun t s₁ q k => ?_) hX))
  cases t
  · simp only [Bool.false_eq_true, if_false] at q ⊢; exact hK false s₁ q k
  · simp only [if_true] at q ⊢
    refine wpAny_allTrue_And_cons (hb (F.keeps k) Q X _ E q (fun b s' q' k' => ?_) fun e s' q' => hX e s' (Rz.trans k q'))
    cases b
    · exact hK false s' q' (k.trans k')
    · exact wpAny_allTrue_And_nil (hK true s' q' (k.trans k'))
theorem st_or {a b : E} {x y : Expr} {r : List Expr} {pos p' : Pos} (ha : ST G d c a x) (hb : ST G d c b (.BoolOp .Or (y :: r) p')) : ST G d c (.or a b) (.BoolOp .Or (x :: y :: r) pos) := by
  intro A env lay Sys base st s F Q X K E hW hK hX
  simp only [we_0, we_1, we_2, we_3, we_4, we_5, we_6, we_7, we_8, we_9, we_10, we_11, we_12, we_13, we_14, we_15, we_16, we_17, we_18, we_19, we_20, we_21, we_22, we_23, we_24, we_25, we_26, we_27, we_28, we_29, we_30, we_31, we_32, we_33, we_34, we_35, we_36, we_37] at hW
  have hW := WE_cg (Q' := fun u => match truthV st.H u with
      | some r => if r then Q true else WE (G.cx d) b st (fun u => match truthV st.H u with
        | some b => Q b
        | none => False) X
      | none => False) hW fun u => by
    cases e : truthV st.H u with
    | none => rfl
    | some r => cases r <;> simp only [e] <;> rfl
  refine wpAny_isTrue_BoolOp (wpAny_allTrue_Or_cons (ha F _ X _ E hW (fun t s₁ q k => ?_) hX))
  cases t
  · simp only [Bool.false_eq_true, if_false] at q ⊢
    have := hb (F.keeps k) Q X K E q (fun b s' q' k' => hK b s' q' (k.trans k')) fun e s' q' => hX e s' (Rz.trans k q')
    rw [arm_isTrue_BoolOp] at this
    exact this
  · simp only [if_true] at q ⊢; exact hK true s₁ q k
theorem st_or2 {a b : E} {x y : Expr} {pos : Pos} (ha : ST G d c a x) (hb : ST G d c b y) : ST G d c (.or a b) (.BoolOp .Or [x, y] pos) := by
  intro A env lay Sys base st s F Q X K E hW hK hX
  simp only [we_0, we_1, we_2, we_3, we_4, we_5, we_6, we_7, we_8, we_9, we_10, we_11, we_12, we_13, we_14, we_15, we_16, we_17, we_18, we_19, we_20, we_21, we_22, we_23, we_24, we_25, we_26, we_27, we_28, we_29, we_30, we_31, we_32, we_33, we_34, we_35, we_36, we_37] at hW
  have hW := WE_cg (Q' := fun u => match truthV st.H u with
      | some r => if r then Q true else WE (G.cx d) b st (fun u => match truthV st.H u with
        | some b => Q b
        | none => False) X
      | none => False) hW fun u => by
    cases e : truthV st.H u with
    | none => rfl
    | some r => cases r <;> simp only [e] <;> rfl
  refine wpAny_isTrue_BoolOp (wpAny_allTrue_Or_cons (ha F _ X _ E hW (fun t s₁ q k => ?_) hX))
  cases t
  · simp only [Bool.false_eq_true, if_false] at q ⊢
    refine wpAny_allTrue_Or_cons (hb (F.keeps k) Q X _ E q (fun b s' q' k' => ?_) fun e s' q' => hX e s' (Rz.trans k q'))
    cases b
    · exact wpAny_allTrue_Or_nil (hK false s' q' (k.trans k'))
    · exact hK true s' q' (k.trans k')
  · simp only [if_true] at q ⊢; exact hK true s₁ q k

theorem cmp_eval {l : Expr} {ops : List CmpOp} {rs : List Expr} {pos : Pos} (hm : lastMarks ops rs = false) : eval (.Compare l ops rs pos) env = (do compareChain pos (← eval l env) ops (evalEach rs env)) := by
  show (do compareChain pos (← eval l env) ops (markedEach ops rs (evalEach rs env))) = _
  rw [PyProof.Rows.markedEach_of_false _ _ _ hm]
theorem cmp_test {l : Expr} {ops : List CmpOp} {rs : List Expr} {pos : Pos} {w : Sem Value} (hm : lastMarks ops rs = false) : isTrue (.Compare l ops rs pos) env w = (do testChain pos (← eval l env) ops (evalEach rs env)) := by
  show (do testChain pos (← eval l env) ops (markedEach ops rs (evalEach rs env))) = _
  rw [PyProof.Rows.markedEach_of_false _ _ _ hm]

theorem se_cmp {a : E} {ch : Ch} {l : Expr} {ops : List CmpOp} {rs : List Expr} {pos : Pos} (F : Fx G d c A env lay Sys base st s) (ha : SE G d c a l) (hc : SCh G d c ch ops rs) (hm : lastMarks ops rs = false) :
    Snd G.prog G.w G.mg A (NN st.H Sys) Sys s false (eval (.Compare l ops rs pos) env) (WE (G.cx d) (.cmp a ch) st) := by
  intro Q X K E hW hK hX
  simp only [we_0, we_1, we_2, we_3, we_4, we_5, we_6, we_7, we_8, we_9, we_10, we_11, we_12, we_13, we_14, we_15, we_16, we_17, we_18, we_19, we_20, we_21, we_22, we_23, we_24, we_25, we_26, we_27, we_28, we_29, we_30, we_31, we_32, we_33, we_34, we_35, we_36, we_37] at hW
  rw [cmp_eval hm]
  refine wpAny_bind ((ha F).weak _ X _ E hW (fun u va s₁ h₁ r₁ k₁ _ => ?_) hX)
  exact (hc (F.keeps k₁) u va pos r₁ _ X h₁).1 K E (fun r s' q k => hK _ _ _ q (.bool _) (k₁.trans k) nofun) fun e s' q => hX e s' (Rz.trans k₁ q)
theorem st_cmp {a : E} {ch : Ch} {l : Expr} {ops : List CmpOp} {rs : List Expr} {pos : Pos} (ha : SE G d c a l) (hc : SCh G d c ch ops rs) (hm : lastMarks ops rs = false) : ST G d c (.cmp a ch) (.Compare l ops rs pos) := by
  intro A env lay Sys base st s F Q X K E hW hK hX
  simp only [we_0, we_1, we_2, we_3, we_4, we_5, we_6, we_7, we_8, we_9, we_10, we_11, we_12, we_13, we_14, we_15, we_16, we_17, we_18, we_19, we_20, we_21, we_22, we_23, we_24, we_25, we_26, we_27, we_28, we_29, we_30, we_31, we_32, we_33, we_34, we_35, we_36, we_37] at hW
  rw [cmp_test hm]
  refine wpAny_bind ((ha F).weak _ X _ E hW (fun u va s₁ h₁ r₁ k₁ _ => ?_) hX)
  exact (hc (F.keeps k₁) u va pos r₁ _ X h₁).2 K E (fun r s' q k => hK _ _ q (k₁.trans k)) fun e s' q => hX e s' (Rz.trans k₁ q)
end

end Mine
end

section
set_option autoImplicit false
namespace Mine
open PySem

/-- an iterator that hands out so many things -/
structure WK (prog : Program) (w : World) (A : Around) (I : Addr) (fp wr : List Addr) (nw : Bool) (n : Nat) (P Mi : Nat → Value → Heap → Prop) (Si : Nat → Heap → Prop) : Prop where
  sub : ∀ b ∈ wr, b ∈ fp
  ex : ∀ i h, Si i h → ∀ b ∈ wr, h.get? b ≠ none
  frame : ∀ i h h', Si i h → (∀ b ∈ fp, ∀ o, h.get? b = some o → h'.get? b = some o) → Si i h'
  item : ∀ i (s : Shared) (Q : Option Value → Shared → Prop) (E : Value → Shared → Prop), i < n → Si i s.heap →
    (∀ v h' tk, Mi i v h' → (nw = true → ∀ t, v = .ref t → s.heap.get? t = none) → (∀ b o, b ∉ wr → s.heap.get? b = some o → h'.get? b = some o) → Q (some v) { s with heap := h', toks := tk }) → wpAny (model prog w) A (pyNext (.ref I)) Q E s
  done : ∀ (s : Shared) (Q : Option Value → Shared → Prop) (E : Value → Shared → Prop), Hq A s.heap → (∀ y, A.handled = some (.ref y) → y ∉ wr) → Si n s.heap →
    (∀ h' tk, (∀ b o, b ∉ wr → s.heap.get? b = some o → h'.get? b = some o) → Q none { s with heap := h', toks := tk }) → wpAny (model prog w) A (pyNext (.ref I)) Q E s
  own : ∀ i (s : Shared) (v : Value) (t : Expr) (Q : Unit → Shared → Prop) (E : Value → Shared → Prop), Mi i v s.heap → (nw = true → isTupX t = true) →
    (∀ h', Si (i + 1) h' → P i v h' → (∀ b o, b ∉ wr → s.heap.get? b = some o → h'.get? b = some o) → Q () { s with heap := h' }) → wpAny (model prog w) A (letOwnedTupleGo t (.ref I) v) Q E s
  self : ∀ i (s : Shared) (Q : Value → Shared → Prop) (E : Value → Shared → Prop), Si i s.heap → Q (.ref I) s → wpAny (model prog w) A (pyIter (.ref I)) Q E s

theorem own_plain {prog : Program} {w : World} {A : Around} {I : Addr} {s : Shared} {v : Value} {t : Expr} {T : String} {Q : Unit → Shared → Prop} {E : Value → Shared → Prop} (hI : ∃ o, s.heap.get? I = some o ∧ o.cls = .type T)
    (hT : ["enumerate", "zip", "dict_itemiterator", "dict_reverseitemiterator", "odict_iterator", "itertools.zip_longest", "itertools.pairwise"].contains T = false) (h : Q () s) : wpAny (model prog w) A (letOwnedTupleGo t (.ref I) v) Q E s := by
  obtain ⟨o, ho, hc⟩ := hI
  have key : wpAny (model prog w) A (match (Value.ref I, v) with
    | (.ref r, .ref a) => (do
      let o ← load r
      match o.cls, o.data with
      | .type n, .fields vs =>
        if ["enumerate", "zip", "dict_itemiterator", "dict_reverseitemiterator", "odict_iterator", "itertools.zip_longest", "itertools.pairwise"].contains n && vs[0]? == some (rawInt a) then
          rule "for.unpacks-the-owned-tuple"
          updateField r 0 .none
      | _, _ => pure () : Sem Unit)
    | _ => pure ()) Q E s := by
    cases v with
    | ref a =>
      refine wpAny_bind (wpAny_load ho ?_)
      rw [hc]
      cases o.data <;> first
        | exact wpAny_pure h
        | (dsimp only; rw [if_neg (by rw [hT]; simp)]; exact wpAny_pure h)
    | _ => exact wpAny_pure h
  unfold letOwnedTupleGo
  cases t <;> first
    | exact wpAny_pure h
    | exact key

theorem WK.of {prog : Program} {w : World} {A : Around} {I : Addr} {fp : List Addr} {n : Nat} {P : Nat → Value → Prop} {Si : Nat → Heap → Prop} {T : String} (hI0 : I ∈ fp)
    (frame : ∀ i h h', Si i h → (∀ b ∈ fp, ∀ o, h.get? b = some o → h'.get? b = some o) → Si i h')
    (item : ∀ i (s : Shared) (Q : Option Value → Shared → Prop) (E : Value → Shared → Prop), i < n → Si i s.heap → (∀ v h' tk, P i v → Si (i + 1) h' → Heap.SameBut I s.heap h' → Q (some v) { s with heap := h', toks := tk }) → wpAny (model prog w) A (pyNext (.ref I)) Q E s)
    (done : ∀ (s : Shared) (Q : Option Value → Shared → Prop) (E : Value → Shared → Prop), Hq A s.heap → (∀ y, A.handled = some (.ref y) → y ≠ I) → Si n s.heap → (∀ h', Heap.ExtBut I s.heap h' → Q none { s with heap := h' }) → wpAny (model prog w) A (pyNext (.ref I)) Q E s)
    (self : ∀ i (s : Shared) (Q : Value → Shared → Prop) (E : Value → Shared → Prop), Si i s.heap → Q (.ref I) s → wpAny (model prog w) A (pyIter (.ref I)) Q E s)
    (hT : ["enumerate", "zip", "dict_itemiterator", "dict_reverseitemiterator", "odict_iterator", "itertools.zip_longest", "itertools.pairwise"].contains T = false) (hI : ∀ i h, Si i h → ∃ o, h.get? I = some o ∧ o.cls = .type T) :
    WK prog w A I fp [I] false n (fun i v _ => P i v) (fun i v h => P i v ∧ Si (i + 1) h) Si where
  sub := fun b hb => List.mem_singleton.mp hb ▸ hI0
  ex := fun i h hs b hb e => by
    obtain rfl := List.mem_singleton.mp hb
    obtain ⟨o, ho, _⟩ := hI i h hs
    rw [ho] at e; cases e
  frame := frame
  item := fun i s Q E hi hs hQ => item i s Q E hi hs fun v h' tk hp hs' hk => hQ v h' tk ⟨hp, hs'⟩ nofun fun b o hb e => hk.extBut b o (fun q => hb (q ▸ List.mem_singleton.mpr rfl)) e
  done := fun s Q E h1 h2 hs hQ => done s Q E h1 (fun y hy q => h2 y hy (q ▸ List.mem_singleton.mpr rfl)) hs fun h' hk => hQ h' s.toks fun b o hb e => hk b o (fun q => hb (q ▸ List.mem_singleton.mpr rfl)) e
  own := fun i s v t Q E hs _ hQ => own_plain (hI _ _ hs.2) hT (hQ s.heap hs.2 hs.1 fun _ _ _ e => e)
  self := self
section
variable {prog : Program} {w : World} {A : Around}
theorem wk_list (I ax : Addr) (hne : ax ≠ I) (items : Array Value) : WK prog w A I [I, ax] [I] false items.size (fun i v _ => items[i]? = some v) (fun i v h => items[i]? = some v ∧ (h.IsListIter I ax (i + 1) ∧ h.IsList ax items)) (fun i h => h.IsListIter I ax i ∧ h.IsList ax items) :=
  WK.of (P := fun i v => items[i]? = some v) (Si := fun i h => h.IsListIter I ax i ∧ h.IsList ax items) (T := "list_iterator") (List.mem_cons_self ..) (fun _ _ _ st hk => ⟨st.1.at fun o e => hk I (List.mem_cons_self ..) o e, st.2.at fun o e => hk ax (List.mem_cons_of_mem _ (List.mem_cons_self ..)) o e⟩)
    (fun i s Q E hi st hQ => wpAny_pyNext_list_item st.1 st.2 (x := items[i]) (Array.getElem?_eq_getElem hi) fun h' hit' hs' => hQ _ h' s.toks (Array.getElem?_eq_getElem hi) ⟨hit', st.2.extBut hs'.extBut hne⟩ hs')
    (fun s Q E h1 h2 st hQ => list_end h1 h2 st.1 st.2 (Array.getElem?_eq_none (Nat.le_refl _)) hQ) (fun _ _ _ _ st hQ => wpAny_pyIter_listiter st.1 hQ) (by decide) (fun i h q => ⟨_, q.1.choose_spec.1, q.1.choose_spec.2.1⟩)
theorem wk_tuple (I ax : Addr) (hne : ax ≠ I) (items : Array Value) : WK prog w A I [I, ax] [I] false items.size (fun i v _ => items[i]? = some v) (fun i v h => items[i]? = some v ∧ (h.IsTupleIter I ax (i + 1) ∧ h.IsTuple ax items)) (fun i h => h.IsTupleIter I ax i ∧ h.IsTuple ax items) :=
  WK.of (P := fun i v => items[i]? = some v) (Si := fun i h => h.IsTupleIter I ax i ∧ h.IsTuple ax items) (T := "tuple_iterator") (List.mem_cons_self ..) (fun _ _ _ st hk => ⟨st.1.at fun o e => hk I (List.mem_cons_self ..) o e, st.2.at fun o e => hk ax (List.mem_cons_of_mem _ (List.mem_cons_self ..)) o e⟩)
    (fun i s Q E hi st hQ => wpAny_pyNext_tuple_item st.1 st.2 (x := items[i]) (Array.getElem?_eq_getElem hi) fun h' hit' hs' => hQ _ h' s.toks (Array.getElem?_eq_getElem hi) ⟨hit', st.2.extBut hs'.extBut hne⟩ hs')
    (fun s Q E h1 h2 st hQ => tuple_end h1 h2 st.1 st.2 (Array.getElem?_eq_none (Nat.le_refl _)) hQ) (fun _ _ _ _ st hQ => wpAny_pyIter_tupleiter st.1 hQ) (by decide) (fun i h q => ⟨_, q.1.choose_spec.1, q.1.choose_spec.2.1⟩)
theorem wk_ascii (I : Addr) (x : Str) (t : Tok) : WK prog w A I [I] [I] false x.cps.size (fun i v _ => SignAt x i v) (fun i v h => SignAt x i v ∧ h.IsStrIter I "str_ascii_iterator" x t (i + 1)) (fun i h => h.IsStrIter I "str_ascii_iterator" x t i) :=
  WK.of (P := SignAt x) (Si := fun i h => h.IsStrIter I "str_ascii_iterator" x t i) (T := "str_ascii_iterator") (List.mem_cons_self ..) (fun _ _ _ st hk => let ⟨o, ho, r⟩ := st; ⟨o, hk I (List.mem_cons_self ..) o ho, r⟩)
    (fun i s Q E hi st hQ => wpAny_pyNext_ascii_item st (c := x.cps[i]) (Array.getElem?_eq_getElem hi) fun h' hit' hs' => hQ _ h' (s.toks + 1) ⟨_, _, Array.getElem?_eq_getElem hi, rfl⟩ hit' hs')
    (fun s Q E h1 h2 st hQ => ascii_end h1 h2 st (Array.getElem?_eq_none (Nat.le_refl _)) hQ) (fun _ _ _ _ st hQ => wpAny_pyIter_striter_ascii st hQ) (by decide) (fun i h q => ⟨_, q.choose_spec.1, q.choose_spec.2.1⟩)
theorem wk_wide (I : Addr) (x : Str) (t : Tok) : WK prog w A I [I] [I] false x.cps.size (fun i v _ => SignAt x i v) (fun i v h => SignAt x i v ∧ h.IsStrIter I "str_iterator" x t (i + 1)) (fun i h => h.IsStrIter I "str_iterator" x t i) :=
  WK.of (P := SignAt x) (Si := fun i h => h.IsStrIter I "str_iterator" x t i) (T := "str_iterator") (List.mem_cons_self ..) (fun _ _ _ st hk => let ⟨o, ho, r⟩ := st; ⟨o, hk I (List.mem_cons_self ..) o ho, r⟩)
    (fun i s Q E hi st hQ => wpAny_pyNext_wide_item st (c := x.cps[i]) (Array.getElem?_eq_getElem hi) fun h' hit' hs' => hQ _ h' (s.toks + 1) ⟨_, _, Array.getElem?_eq_getElem hi, rfl⟩ hit' hs')
    (fun s Q E h1 h2 st hQ => wide_end h1 h2 st (Array.getElem?_eq_none (Nat.le_refl _)) hQ) (fun _ _ _ _ st hQ => wpAny_pyIter_striter_wide st hQ) (by decide) (fun i h q => ⟨_, q.choose_spec.1, q.choose_spec.2.1⟩)
theorem wk_range (I : Addr) (a c : Int) (n : Nat) : WK prog w A I [I] [I] false n (fun i v _ => ∃ t, v = .int (a + i * c) t) (fun i v h => (∃ t, v = .int (a + i * c) t) ∧ IsRangeIter h I (a + ((i + 1 : Nat) : Int) * c) ((n : Int) - ((i + 1 : Nat) : Int)) c) (fun i h => IsRangeIter h I (a + (i : Nat) * c) ((n : Int) - (i : Nat)) c) :=
  WK.of (P := fun i v => ∃ t, v = .int (a + i * c) t) (Si := fun i h => IsRangeIter h I (a + (i : Nat) * c) ((n : Int) - (i : Nat)) c) (T := "range_iterator") (List.mem_cons_self ..) (fun _ _ _ st hk => hk I (List.mem_cons_self ..) _ st)
    (fun i s Q E hi st hQ => wpAny_pyNext_range_item st (by omega) fun h' hit' hs' => hQ _ h' _ ⟨_, rfl⟩ (by
      have e1 : a + ((i + 1 : Nat) : Int) * c = a + (i : Int) * c + c := by push_cast; rw [Int.add_mul, Int.one_mul, Int.add_assoc]
      have e2 : (n : Int) - ((i + 1 : Nat) : Int) = (n : Int) - (i : Int) - 1 := by push_cast; omega
      rw [e1, e2]; exact hit') hs')
    (fun s Q E h1 _ st hQ => range_end h1 st (by omega) hQ) (fun _ _ _ _ st hQ => wpAny_pyIter_rangeiter st hQ) (by decide) (fun i h q => ⟨_, q, rfl⟩)
end

/-- what the walk over an iterable gives -/
structure ItOk (G : PG) (A : Around) (H : AH) (Sys : Addr → Prop) (s s' : Shared) (vs : List V) (ds : List Nat) (I : Addr) (nw : Bool) : Prop where
  ex : ∃ (fp wr : List Addr) (P Mi : Nat → Value → Heap → Prop) (Si : Nat → Heap → Prop), WK G.prog G.w A I fp wr nw vs.length P Mi Si ∧ Si 0 s'.heap ∧ (∀ b ∈ wr, s.heap.get? b = none) ∧ (∀ b ∈ fp, ∃ o, s'.heap.get? b = some o) ∧
    (∀ b ∈ fp, b ∉ wr → (¬ NN H Sys b ∨ (b ∈ ds ∧ H b ≠ none))) ∧
    (∀ i v val h, vs[i]? = some v → P i val h → match nw with
      | false => RV (NN H (fun a => Sys a ∨ a ∈ wr)) s'.heap v val
      | true => ∃ t xs n ws, v = .tup ws ∧ val = .ref t ∧ IsT h t xs n ∧ xs.size ≤ sizeLine ∧ RVs (NN H (fun a => Sys a ∨ a ∈ wr)) s'.heap ws xs.toList)

noncomputable abbrev SI (G : PG) (d : Nat) (c : Sc) (it : It) (x : Expr) : Prop :=
  ∀ {A : Around} {env : Env} {lay : Nat → Option Place} {Sys : Addr → Prop} {base : Heap} {st : St} {s : Shared}, Fx G d c A env lay Sys base st s →
    ∀ (Q : List V → List Nat → Prop) (X : String → Prop) (K : Value → Shared → Prop) (E : Value → Shared → Prop), WI (G.cx d) it st Q X →
      (∀ vs ds I s', Q vs ds → Kp (FZ A Sys) s s' → ItOk G A st.H Sys s s' vs ds I (isEZ it) → K (.ref I) s') → (∀ e s', Rz G.mg A Sys s X e s' → E e s') →
      wpAny (model G.prog G.w) A (eval x env) (fun v s₁ => wpAny (model G.prog G.w) A (pyIter v) K E s₁) E s

section
variable {G : PG} {d : Nat} {c : Sc} {A : Around} {env : Env} {lay : Nat → Option Place} {Sys : Addr → Prop} {base : Heap} {st : St} {s : Shared} {H : AH}

theorem NN.more {wr : List Addr} {b : Addr} (h : NN H (fun a => Sys a ∨ a ∈ wr) b) : NN H Sys b ∨ b ∈ wr := by
  rcases h with h | h | h
  · exact .inl (.inl h)
  · exact .inl (.inr h)
  · exact .inr h

/-- an item of a row that stands, behind a step of the walk -/
theorem item_rv {Sys : Addr → Prop} {I : Addr} {h₀ h₁ : Heap} {vs : List V} {xs : List Value} (r : RVs (NN H Sys) h₀ vs xs) (hI : h₀.get? I = none) (k : HK h₀ h₁) {i : Nat} {v : V} {val : Value} (hv : vs[i]? = some v) (hx : xs[i]? = some val) : RV (NN H (fun a => Sys a ∨ a ∈ [I])) h₁ v val := by
  obtain ⟨x, e, rx⟩ := r.get i hv
  rw [hx] at e; cases e
  refine rx.gen (fun b q => ?_) fun b o nb e => k b o e
  rcases NN.more q with q | q
  · exact .inl q
  · rw [List.mem_singleton.mp q]; exact .inr hI

theorem it_list {a : Addr} {xs : Array Value} {n : Nat} {vs : List V} {ds : List Nat} {K E : Value → Shared → Prop} (F : Fx G d c A env lay Sys base st s) (hl : IsL s.heap a xs n) (r : RVs (NN st.H Sys) s.heap vs xs.toList)
    (hd : ¬ NN st.H Sys a ∨ (a ∈ ds ∧ st.H a ≠ none)) (hK : ∀ I s', Kp (FZ A Sys) s s' → ItOk G A st.H Sys s s' vs ds I false → K (.ref I) s') : wpAny (model G.prog G.w) A (pyIter (.ref a)) K E s := by
  refine wpAny_pyIter_list hl.isList (hK _ _ (Kp.ofH (HK.push _ _)) ⟨?_⟩)
  have hne : a ≠ s.heap.objs.size := Nat.ne_of_lt (Heap.lt_size hl)
  have hsz := r.size
  refine ⟨[s.heap.objs.size, a], [s.heap.objs.size], _, _, _, hsz ▸ wk_list s.heap.objs.size a hne xs, ?_, ?_, ?_, ?_, ?_⟩
  · exact ⟨⟨_, Heap.get?_push_size _ rfl, rfl, rfl⟩, ⟨_, Heap.get?_push_of_some _ hl, rfl, _, rfl⟩⟩
  · intro b hb; rw [List.mem_singleton.mp hb]; exact fresh_size _
  · intro b hb
    simp only [List.mem_cons, List.not_mem_nil, or_false] at hb
    rcases hb with rfl | rfl
    · exact ⟨_, Heap.get?_push_size _ rfl⟩
    · exact ⟨_, Heap.get?_push_of_some _ hl⟩
  · intro b hb hw
    simp only [List.mem_cons, List.not_mem_nil, or_false] at hb hw
    rcases hb with rfl | rfl
    · exact absurd rfl hw
    · exact hd
  · intro i v val h hv hp
    exact item_rv r (fresh_size _) (HK.push _ _) hv (by simpa using hp)

theorem it_tup {a : Addr} {xs : Array Value} {n : Nat} {vs : List V} {ds : List Nat} {K E : Value → Shared → Prop} (F : Fx G d c A env lay Sys base st s) (hl : IsT s.heap a xs n) (r : RVs (NN st.H Sys) s.heap vs xs.toList)
    (hd : ¬ NN st.H Sys a ∨ (a ∈ ds ∧ st.H a ≠ none)) (hK : ∀ I s', Kp (FZ A Sys) s s' → ItOk G A st.H Sys s s' vs ds I false → K (.ref I) s') : wpAny (model G.prog G.w) A (pyIter (.ref a)) K E s := by
  refine wpAny_pyIter_tuple (IsT.isTuple hl) (hK _ _ (Kp.ofH (HK.push _ _)) ⟨?_⟩)
  have hne : a ≠ s.heap.objs.size := Nat.ne_of_lt (Heap.lt_size hl)
  have hsz := r.size
  refine ⟨[s.heap.objs.size, a], [s.heap.objs.size], _, _, _, hsz ▸ wk_tuple s.heap.objs.size a hne xs, ?_, ?_, ?_, ?_, ?_⟩
  · exact ⟨⟨_, Heap.get?_push_size _ rfl, rfl, rfl⟩, ⟨_, Heap.get?_push_of_some _ hl, rfl, _, rfl⟩⟩
  · intro b hb; rw [List.mem_singleton.mp hb]; exact fresh_size _
  · intro b hb
    simp only [List.mem_cons, List.not_mem_nil, or_false] at hb
    rcases hb with rfl | rfl
    · exact ⟨_, Heap.get?_push_size _ rfl⟩
    · exact ⟨_, Heap.get?_push_of_some _ hl⟩
  · intro b hb hw
    simp only [List.mem_cons, List.not_mem_nil, or_false] at hb hw
    rcases hb with rfl | rfl
    · exact absurd rfl hw
    · exact hd
  · intro i v val h hv hp
    exact item_rv r (fresh_size _) (HK.push _ _) hv (by simpa using hp)

theorem it_str {x : Str} {t : Tok} {ds : List Nat} {K E : Value → Shared → Prop} (F : Fx G d c A env lay Sys base st s) (hx : SOk x)
    (hK : ∀ I s', Kp (FZ A Sys) s s' → ItOk G A st.H Sys s s' (signsOf x) ds I false → K (.ref I) s') : wpAny (model G.prog G.w) A (pyIter (.str x t)) K E s := by
  have hsz : (signsOf x).length = x.cps.size := by simp [signsOf]
  have sign : ∀ (Sy : Addr → Prop) (h : Heap) (i : Nat) (v : V) (val : Value), (signsOf x)[i]? = some v → SignAt x i val → RV (NN st.H Sy) h v val := by
    rintro Sy h i v val hv ⟨c, u, hc, rfl⟩
    have hc' : x.cps.toList[i]? = some c := by rw [Array.getElem?_toList]; exact hc
    simp only [signsOf, List.getElem?_map, hc', Option.map_some, Option.some.injEq] at hv
    subst hv
    exact .str _ _ (hx.one (List.mem_of_getElem? hc'))
  cases ha : x.cps.all (· < 128)
  · refine wpAny_pyIter_wide ha (hK _ _ (Kp.ofH (HK.push _ _)) ⟨?_⟩)
    refine ⟨[s.heap.objs.size], [s.heap.objs.size], _, _, _, hsz ▸ wk_wide s.heap.objs.size x t, ⟨_, Heap.get?_push_size _ rfl, rfl, rfl⟩, ?_, ?_, ?_, ?_⟩
    · intro b hb; rw [List.mem_singleton.mp hb]; exact fresh_size _
    · intro b hb; rw [List.mem_singleton.mp hb]; exact ⟨_, Heap.get?_push_size _ rfl⟩
    · intro b hb hw; exact absurd hb hw
    · intro i v val h hv hp; exact sign _ _ _ _ _ hv hp
  · refine wpAny_pyIter_ascii ha (hK _ _ (Kp.ofH (HK.push _ _)) ⟨?_⟩)
    refine ⟨[s.heap.objs.size], [s.heap.objs.size], _, _, _, hsz ▸ wk_ascii s.heap.objs.size x t, ⟨_, Heap.get?_push_size _ rfl, rfl, rfl⟩, ?_, ?_, ?_, ?_⟩
    · intro b hb; rw [List.mem_singleton.mp hb]; exact fresh_size _
    · intro b hb; rw [List.mem_singleton.mp hb]; exact ⟨_, Heap.get?_push_size _ rfl⟩
    · intro b hb hw; exact absurd hb hw
    · intro i v val h hv hp; exact sign _ _ _ _ _ hv hp

theorem ItOk.before {s₀ s₁ s₂ : Shared} {vs : List V} {ds : List Nat} {I : Addr} {nw : Bool} (k : Kp (FZ A Sys) s₀ s₁) (x : ItOk G A H Sys s₁ s₂ vs ds I nw) : ItOk G A H Sys s₀ s₂ vs ds I nw := by
  obtain ⟨fp, wr, P, Mi, Si, h1, h2, h3, h4, h5, h6⟩ := x.ex
  exact ⟨fp, wr, P, Mi, Si, h1, h2, fun b hb => fresh_keeps k (h3 b hb), h4, h5, h6⟩

theorem si_seq {e : E} {x : Expr} (he : SE G d c e x) : SI G d c (.seq e) x := by
  intro A env lay Sys base st s F Q X K E hW hK hX
  simp only [wi_0, wi_1, wi_2, wi_3, wi_4, wi_5, wi_6, wi_7, rg1, rg2, rg3] at hW
  refine (he F).weak _ X _ E hW (fun v a s₁ h₁ r₁ k₁ _ => ?_) hX
  have F₁ := F.keeps k₁
  split at h₁
  · rename_i vs hv
    have fin : ∀ I s', Kp (FZ A Sys) s₁ s' → ItOk G A st.H Sys s₁ s' vs (depsV v) I false → K (.ref I) s' := fun I s' k i => hK vs _ I s' h₁ (k₁.trans k) (i.before k₁)
    cases r₁ with
    | lst b1 b2 b3 b4 => simp [iv_none, iv_bool, iv_int, iv_str, iv_tup, iv_lst, iv_ref, iv_inst, iv_iref, iv_exc, iv_dct] at hv; subst hv; exact it_list F₁ b2 b4 (.inl b1) fin
    | tup b1 b2 b3 b4 => simp [iv_none, iv_bool, iv_int, iv_str, iv_tup, iv_lst, iv_ref, iv_inst, iv_iref, iv_exc, iv_dct] at hv; subst hv; exact it_tup F₁ b2 b4 (.inl b1) fin
    | str u t o => simp [iv_none, iv_bool, iv_int, iv_str, iv_tup, iv_lst, iv_ref, iv_inst, iv_iref, iv_exc, iv_dct] at hv; subst hv; exact it_str F₁ o fin
    | ref ad =>
      simp only [iv_none, iv_bool, iv_int, iv_str, iv_tup, iv_lst, iv_ref, iv_inst, iv_iref, iv_exc, iv_dct] at hv
      split at hv
      · rename_i ws hw
        cases hv
        cases F₁.sim.objs _ _ hw with
        | list b1 b2 b3 => exact it_list F₁ b1 b3 (.inr ⟨by simp [dv_none, dv_bool, dv_int, dv_str, dv_tup, dv_lst, dv_ref, dv_inst, dv_iref, dv_exc, dv_dct], by rw [hw]; simp⟩) fin
      · cases hv
    | _ => simp [iv_none, iv_bool, iv_int, iv_str, iv_tup, iv_lst, iv_ref, iv_inst, iv_iref, iv_exc, iv_dct] at hv
  · exact h₁.elim
end

end Mine
end

section
set_option autoImplicit false
namespace Mine
open PySem

section
variable {G : PG} {d : Nat} {c : Sc} {A : Around} {env : Env} {lay : Nat → Option Place} {Sys : Addr → Prop} {base : Heap} {st : St} {s : Shared} {H : AH}

theorem RVs.reverse {N : Addr → Prop} {h : Heap} : ∀ {vs : List V} {xs : List Value}, RVs N h vs xs → RVs N h vs.reverse xs.reverse
  | _, _, .nil => .nil
  | _, _, .cons a b => by simpa using b.reverse.append (.cons a .nil)

theorem rng1_inv {vs : List V} {P : Int → Prop} (h : rng1 vs P) : ∃ i, vs = [.int i] ∧ smallI i ∧ P i := by
  rcases vs with _ | ⟨a, _ | ⟨b, r⟩⟩
  · exact False.elim h
  · obtain ⟨i, rfl, h⟩ := intP_inv h
    exact ⟨_, rfl, h⟩
  · exact False.elim h
theorem rng3_inv {vs : List V} {P : Int → Int → Int → Prop} (h : rng3 vs P) : ∃ i j k, vs = [.int i, .int j, .int k] ∧ smallI i ∧ smallI j ∧ P i j k := by
  rcases vs with _ | ⟨a, _ | ⟨b, _ | ⟨e, _ | ⟨g, r⟩⟩⟩⟩
  · exact False.elim h
  · exact False.elim h
  · exact False.elim h
  · obtain ⟨i, rfl, h⟩ := intP_inv h
    obtain ⟨j, rfl, h⟩ := intP_inv h
    obtain ⟨k, rfl, h⟩ := intP_inv h
    exact ⟨_, _, _, rfl, h⟩
  · exact False.elim h

theorem rangeSize_neg (a b : Int) : Builtin.Range.rangeSize a b (-1) = if b < a then a - b else 0 := by
  unfold Builtin.Range.rangeSize
  simp only [show ¬ ((-1 : Int) > 0) by decide, if_false]
  split <;> simp <;> omega
theorem small_neg {a b : Int} (ha : -(2 ^ 62) ≤ a) (ha' : a < 2 ^ 62) (hb : -(2 ^ 62) ≤ b) (hb' : b < 2 ^ 62) : Builtin.Range.small a b (-1) = true := by
  unfold Builtin.Range.small
  rw [rangeSize_neg]
  simp only [Builtin.Range.rangeFitsLong, Bool.and_eq_true, Bool.or_eq_true, decide_eq_true_eq, beq_iff_eq, show ¬ ((-1 : Int) > 0) by decide, if_false]
  split <;> omega

theorem upL_length (a b : Int) : (upL a b).length = (b - a).toNat := by simp [upL]
theorem downL_length (a b : Int) : (downL a b).length = (a - b).toNat := by simp [downL]
theorem upL_get {a b : Int} {i : Nat} {v : V} (h : (upL a b)[i]? = some v) : v = .int (a + i) := by
  simp only [upL, List.getElem?_map, Option.map_eq_some_iff] at h
  obtain ⟨k, hk, rfl⟩ := h
  have := List.getElem?_eq_some_iff.mp hk
  obtain ⟨h1, h2⟩ := this
  simp at h2; rw [h2]
theorem downL_get {a b : Int} {i : Nat} {v : V} (h : (downL a b)[i]? = some v) : v = .int (a - i) := by
  simp only [downL, List.getElem?_map, Option.map_eq_some_iff] at h
  obtain ⟨k, hk, rfl⟩ := h
  have := List.getElem?_eq_some_iff.mp hk
  obtain ⟨h1, h2⟩ := this
  simp at h2; rw [h2]

theorem it_range {r : Addr} {a b e : Int} {t u v : Tok} {n : Nat} {vs : List V} {K E : Value → Shared → Prop} (F : Fx G d c A env lay Sys base st s) (hr : IsRange s.heap r a b e t u v) (hs : Builtin.Range.small a b e = true)
    (hn : Builtin.Range.rangeSize a b e = (n : Int)) (hvn : vs.length = n) (hv : ∀ (i : Nat) (v : V), vs[i]? = some v → v = V.int (a + i * e))
    (hK : ∀ I s', Kp (FZ A Sys) s s' → ItOk G A st.H Sys s s' vs [] I false → K (.ref I) s') : wpAny (model G.prog G.w) A (pyIter (.ref r)) K E s := by
  refine wpAny_pyIter_range hr hs (hK _ _ (Kp.ofH (HK.push _ _)) ⟨?_⟩)
  refine ⟨[s.heap.objs.size], [s.heap.objs.size], _, _, _, hvn ▸ wk_range s.heap.objs.size a e n, ?_, ?_, ?_, ?_, ?_⟩
  · show Heap.get? (Heap.push _ _) _ = _
    rw [hn]
    have := Heap.get?_push_size (o := { cls := .type "range_iterator", data := .fields #[rawInt a, rawInt (n : Int), rawInt e] }) s.heap rfl
    simpa [hvn] using this
  · intro b hb; rw [List.mem_singleton.mp hb]; exact fresh_size _
  · intro b hb; rw [List.mem_singleton.mp hb]; exact ⟨_, Heap.get?_push_size _ rfl⟩
  · intro b hb hw; exact absurd hb hw
  · rintro i v val h hv' ⟨tk, rfl⟩
    rw [hv i v hv']; exact .int _ _

theorem si_range1 {e : E} {y : Str} {p pos : Pos} {z : Expr} (hg : isGlob c y "range" = true) (hz : noStar z = true) (he : SE G d c e z) : SI G d c (.range1 e) (.Call (.Name y p) [z] [] pos) := by
  intro A env lay Sys base st s F Q X K E hW hK hX
  refine (ev_call_t (es := .cons e .nil) (X := X) (Q := fun vs => rng1 vs fun i => Q (upL 0 i) []) F hg (by decide) rfl (ses_cons hz he ses_nil) hW ?_ hX)
  · intro vs vals s₁ q r k
    obtain ⟨i, rfl, ⟨h1, h2⟩, h₁⟩ := rng1_inv q
    cases r with
    | cons r1 r2 =>
      cases r2; cases r1; rename_i tt
      refine call_range_1 ?_
      have k' := Kp.of (Z := FZ A Sys) (s := s₁) (t := s₁.toks + 1 + 1) (HK.push s₁.heap { cls := .type "range", data := .fields #[.int 0 s₁.toks, .int i tt, .int 1 (s₁.toks + 1)] })
      have F₁ := (F.keeps k).keeps k'
      refine it_range (n := i.toNat) F₁ (IsRange.new ..) (small_one (by decide) (by decide) h1 h2) ?_ (by rw [upL_length]; simp) (fun j v hv => by rw [upL_get hv]; simp) fun I s' k'' it => hK _ _ I s' h₁ ((k.trans k').trans k'') (it.before (k.trans k'))
      rw [rangeSize_one]; split <;> omega

theorem si_range3 {a b e : E} {y : Str} {p pos : Pos} {z u v : Expr} (hg : isGlob c y "range" = true) (hz : noStar z = true) (hu : noStar u = true) (hv : noStar v = true) (ha : SE G d c a z) (hb : SE G d c b u) (he : SE G d c e v) :
    SI G d c (.range3 a b e) (.Call (.Name y p) [z, u, v] [] pos) := by
  intro A env lay Sys base st s F Q X K E hW hK hX
  refine (ev_call_t (es := .cons a (.cons b (.cons e .nil))) (X := X) (Q := fun vs => rng3 vs fun i j k => k = -1 ∧ Q (downL i j) []) F hg (by decide) rfl (ses_cons hz ha (ses_cons hu hb (ses_cons hv he ses_nil))) hW ?_ hX)
  · intro vs vals s₁ q r k
    obtain ⟨i, j, kk, rfl, ⟨h1, h2⟩, ⟨h3, h4⟩, rfl, h₁⟩ := rng3_inv q
    cases r with
    | cons r1 r2 =>
      cases r2 with
      | cons r2 r3 =>
        cases r3 with
        | cons r3 r4 =>
          cases r4; cases r1; cases r2; cases r3; rename_i t1 t2 t3
          refine call_range_3 (by decide) ?_ (.inl (PyProof.noPylong_small (by decide)))
          have k' := Kp.of (Z := FZ A Sys) (s := s₁) (t := s₁.toks) (HK.push s₁.heap { cls := .type "range", data := .fields #[.int i t1, .int j t2, .int (-1) t3] })
          have F₁ := (F.keeps k).keeps k'
          refine it_range (n := (i - j).toNat) F₁ (IsRange.new ..) (small_neg h1 h2 h3 h4) ?_ (by rw [downL_length]) (fun j v hv => by rw [downL_get hv]; congr 1; omega) fun I s' k'' it => hK _ _ I s' h₁ ((k.trans k').trans k'') (it.before (k.trans k'))
          rw [rangeSize_neg]; split <;> omega
end

end Mine
end

section
set_option autoImplicit false
namespace Mine
open PySem
theorem ri_next : Slot "list_reverseiterator" "__next__" "list_reverseiterator.__next__" :=
  .of (owner := "list_reverseiterator") (n := "__next__") (by rw [typeLookup_type, builtinLookup_eq_fast]; kernel_rfl) (by decide +kernel) (by decide +kernel) (by decide +kernel) (.inl (by decide +kernel)) (by rw [isSubtype_type]; kernel_rfl)
theorem ri_next_entry : entryFor table "list_reverseiterator.__next__" = some Builtin.«list_reverseiterator.__next__» := entryFor_of_tree (by kernel_rfl)
noncomputable abbrev RI (l : Addr) (i : Int) : Obj := { cls := .type "list_reverseiterator", dict := none, data := .fields #[.ref l, rawInt i], slots := #[] }
theorem ri_args (a : Value) : argsOk "list_reverseiterator.__next__" ⟨[a], []⟩ := by
  unfold argsOk
  kernel_rfl
theorem ri_item (it l : Addr) (i : Nat) (items : Array Value) (n : Nat) (x : Value) (hx : items[i]? = some x) :
    Meets (Builtin.«list_reverseiterator.__next__» ⟨[.ref it], []⟩) (fun _ R s => s.heap.get? it = some { cls := .type "list_reverseiterator", dict := none, data := .fields #[.ref l, rawInt (i : Int)], slots := #[] } ∧ s.heap.get? l = some { cls := .type "list", dict := none, data := .seq items n, slots := #[] } ∧
      R (.ok (.ret x)) { s with heap := s.heap.update it (Obj.mapFields (·.setIfInBounds 1 (rawInt ((i : Int) - 1)))) }) :=
  .of_wp fun prog w A R s h => by
    obtain ⟨hp, g, d, tk, os⟩ := s
    obtain ⟨hi, hl, h⟩ := h
    wp_walk
    simp only [Int.toNat_natCast, hx]
    wp_walk
    exact ⟨_, rfl, h⟩
theorem ri_end {prog : Program} {w : World} {A : Around} {E : Value → Shared → Prop} {s : Shared} {it l : Addr} {Q : Option Value → Shared → Prop} (hh : A.handled = none) (hi : s.heap.get? it = some (RI l (-1)))
    (hQ : ∀ h', (∀ b o, s.heap.get? b = some o → h'.get? b = some o) → Q none { s with heap := h' }) : wpAny (model prog w) A (pyNext (.ref it)) Q E s := by
  obtain ⟨hp, g, d, tk, os⟩ := s
  have hh' : A.in1.handled = none := hh
  unfold pyNext
  refine wpAny_bind (wpAny_attempt (wpAny_callSpecial?_slot (name := Str.ofString "__next__") ⟨_, hi, rfl⟩ ri_next (wpAny_call_entry ri_next ⟨_, hi, rfl⟩ ri_next_entry ?_ (ri_args _))))
  wp_walk
  unfold raiseNew
  wp_walk
  refine wpAny_of_eq isSubtype_stop ?_
  exact wpAny_pure (hQ _ fun b o e => Heap.get?_push_of_some _ (Heap.get?_push_of_some _ e))
theorem ri_iter : Slot "list_reverseiterator" "__iter__" "list_reverseiterator.__iter__" :=
  .of (owner := "list_reverseiterator") (n := "__iter__") (by rw [typeLookup_type, builtinLookup_eq_fast]; kernel_rfl) (by decide +kernel) (by decide +kernel) (by decide +kernel) (.inl (by decide +kernel)) (by rw [isSubtype_type]; kernel_rfl)
theorem ri_iter_args (a : Value) : argsOk "list_reverseiterator.__iter__" ⟨[a], []⟩ := by
  unfold argsOk
  kernel_rfl
theorem ri_iter_entry : entryFor table "list_reverseiterator.__iter__" = some Builtin.«dict_keyiterator.__iter__» :=
  entryFor_alias (id' := "dict_keyiterator.__iter__") (by kernel_rfl) (by first | rfl | decide +kernel | (unfold String.splitOn; simp +decide [String.splitOnAux])) (by decide +kernel) (by kernel_rfl)
theorem ri_self {prog : Program} {w : World} {A : Around} {E : Value → Shared → Prop} {s : Shared} {it l : Addr} {i : Int} {Q : Value → Shared → Prop} (hi : s.heap.get? it = some (RI l i)) (hQ : Q (.ref it) s) : wpAny (model prog w) A (pyIter (.ref it)) Q E s :=
  wpAny_pyIter_slot ⟨_, hi, rfl⟩ ri_iter (wpAny_call_entry ri_iter ⟨_, hi, rfl⟩ ri_iter_entry (wpAny_pure ⟨_, rfl, _, _, ⟨_, hi, rfl⟩, ri_next.lookup, hQ⟩) (ri_iter_args _))
theorem ri_one {prog : Program} {w : World} {A : Around} {E : Value → Shared → Prop} {s : Shared} {it l : Addr} {i n : Nat} {items : Array Value} {x : Value} {Q : Option Value → Shared → Prop} (hi : s.heap.get? it = some (RI l i)) (hl : s.heap.get? l = some { cls := .type "list", data := .seq items n }) (hx : items[i]? = some x)
    (hQ : Q (some x) { s with heap := s.heap.update it (Obj.mapFields (·.setIfInBounds 1 (rawInt ((i : Int) - 1)))) }) : wpAny (model prog w) A (pyNext (.ref it)) Q E s := by
  unfold pyNext
  refine wpAny_bind (wpAny_attempt (wpAny_callSpecial?_slot (name := Str.ofString "__next__") ⟨_, hi, rfl⟩ ri_next (call_meets ri_next ⟨_, hi, rfl⟩ ri_next_entry (ri_args _) (ri_item it l i items n x hx) ⟨hi, hl, ?_⟩)))
  exact wpAny_pure hQ
theorem ri_made : Bind.madeBy (.type "reversed") = pure (some "reversed.__new__") := by kernel_rfl
theorem ri_sub : isSubtype (.type "list_reverseiterator") (.type "reversed") = pure false := by rw [isSubtype_type]; kernel_rfl
theorem ri_mro : mroOf (.type "reversed") = pure [.type "reversed", .type "object"] := by rw [mroOf_type]; kernel_rfl
theorem ri_new_entry : entryFor table "reversed.__new__" = some Builtin.«reversed.__new__» := entryFor_of_tree (by kernel_rfl)
set_option maxRecDepth 100000 in
theorem ri_call {prog : Program} {w : World} {A : Around} {E : Value → Shared → Prop} {s : Shared} {l : Addr} {Q : Value → Shared → Prop}
    (hQ : codeAny (model prog w) A.in1 (.call (.builtin "reversed.__new__") ⟨[.type "reversed", .ref l], []⟩) (wants (fun v s' => s'.TypeIs v "list_reverseiterator" ∧ Q v s') E) s) : wpAny (model prog w) A (call (.type "reversed") [.ref l]) Q E s := by
  have h1 := ri_made
  have h2 := ri_sub
  have h3 := ri_mro
  have h4 : checkTypeCall "reversed" ⟨[.ref l], []⟩ = pure () := by kernel_rfl
  have h5 : (Value.type "reversed" == Value.type "type") = false := by decide +kernel
  have h6 : ((Manifest.find? "reversed").bind (·.mro.findSome? fun t => (Manifest.find? t).bind fun b => if b.noNew then some true else if b.attrs.any (·.1 == "__new__") then some false else none)).getD false = false := by decide +kernel
  refine wpAny_call (codeAny_of_tree (wpAny_pure ⟨Code.quiet_builtin _ (by decide +kernel), codeAny_builtin F.entry_type_call ?_⟩))
  rw [Around.under_plain (weight_type_call_type _ _ _) rfl]
  repeat (any_goals (first | assumption | wp_step))
  refine codeAny_mono hQ fun r s₁ hr => ?_
  cases r with
  | error e => exact hr
  | ok fl =>
    cases fl with
    | ret v =>
      obtain ⟨hT, hq⟩ := hr
      repeat (any_goals (first | assumption | wp_step))
    | _ => exact hr.elim
theorem ri_new (l : Addr) (items : Array Value) (n : Nat) :
    Meets (Builtin.«reversed.__new__» ⟨[.type "reversed", .ref l], []⟩) (fun _ R s => s.heap.get? l = some { cls := .type "list", dict := none, data := .seq items n, slots := #[] } ∧
      R (.ok (.ret (Value.ref s.heap.objs.size))) { s with heap := s.heap.push (RI l (((items.size : Nat) : Int) - 1)) }) :=
  .of_wp fun prog w A R s h => by
    obtain ⟨hp, g, d, tk, os⟩ := s
    obtain ⟨hl, h⟩ := h
    wp_walk
    refine wpAny_of_eq (show isSubtype (.type "reversed") (.type "reversed") = pure true from by rw [isSubtype_type]; kernel_rfl) ?_
    wp_walk
    refine wpAny_of_eq F.slot_list_reversed.lookup ?_
    wp_walk
    refine wpAny_of_eq (F.slot_list_reversed.bind _) ?_
    wp_walk
    refine codeAny_call_builtin F.slot_list_reversed.plain F.entry_list_reversed (F.slot_list_reversed.check _ _ _ _ _ _ _ _ ⟨_, hl, rfl⟩ (F.args_list_reversed_1 _) (AutoListH.list___reversed___list_0 l items n prog w A.in1 (fun r s' => match r with
      | Except.ok (Flow.ret v) => wpAny (model prog w) A.in1 (ret v) (fun fin s' => ∃ v, fin = Fin.done (Flow.ret v) ∧ R (Except.ok (Flow.ret v)) s') (fun e s' => R (Except.error e) s') s'
      | Except.ok _ => False
      | Except.error e => R (Except.error e) s') _ ⟨hl, ?_⟩))
    wp_walk
    exact ⟨_, rfl, h⟩
theorem ri_calls {prog : Program} {w : World} {A : Around} {E : Value → Shared → Prop} {s : Shared} {l : Addr} {items : Array Value} {n : Nat} {Q : Value → Shared → Prop} (hl : IsL s.heap l items n)
    (hQ : Q (.ref s.heap.objs.size) { s with heap := s.heap.push (RI l (((items.size : Nat) : Int) - 1)) }) : wpAny (model prog w) A (call (.type "reversed") [.ref l]) Q E s :=
  ri_call (codeAny_call_builtin (by decide +kernel) ri_new_entry (wpAny_of_eq (show checkBuiltinCall "reversed.__new__" ⟨[.type "reversed", .ref l], []⟩ = pure () by kernel_rfl) (ri_new l items n prog w _ _ s ⟨hl, ⟨_, Heap.get?_push_size _ rfl, rfl⟩, hQ⟩)))
/-- a reverse iterator, taken i things -/
theorem wk_rev {prog : Program} {w : World} {A : Around} (hh : A.handled = none) {I l : Addr} (hne : l ≠ I) (xs : Array Value) (n : Nat) {m : Nat} (hm : m = xs.size) :
    WK prog w A I [I, l] [I] false m (fun i v _ => xs[xs.size - 1 - i]? = some v) (fun i v h => xs[xs.size - 1 - i]? = some v ∧ i + 1 ≤ xs.size ∧ h.get? I = some (RI l ((xs.size : Int) - 1 - (i + 1 : Nat))) ∧ IsL h l xs n) (fun i h => i ≤ xs.size ∧ h.get? I = some (RI l ((xs.size : Int) - 1 - i)) ∧ IsL h l xs n) where
  sub := fun b hb => by rw [List.mem_singleton.mp hb]; exact List.mem_cons_self ..
  ex := fun i h hs b hb e => by rw [List.mem_singleton.mp hb, hs.2.1] at e; cases e
  frame := fun i h h' hs hk => ⟨hs.1, hk I (List.mem_cons_self ..) _ hs.2.1, hk l (List.mem_cons_of_mem _ (List.mem_cons_self ..)) _ hs.2.2⟩
  item := fun i s Q E hi hs hQ => by
    have e : (xs.size : Int) - 1 - i = ((xs.size - 1 - i : Nat) : Int) := by omega
    have h1 := hs.2.1
    rw [e] at h1
    have hx : xs[xs.size - 1 - i]? = some (xs[xs.size - 1 - i]'(by omega)) := Array.getElem?_eq_getElem (by omega)
    have e2 : ((xs.size - 1 - i : Nat) : Int) - 1 = (xs.size : Int) - 1 - ((i + 1 : Nat) : Int) := by omega
    refine ri_one h1 hs.2.2 hx ?_
    rw [e2]
    refine hQ _ _ s.toks ⟨hx, by omega, ?_, ?_⟩ nofun fun b o hb eo => ?_
    · exact Heap.get?_update_self _ h1 rfl
    · exact Heap.get?_update_of_ne _ (Ne.symm hne) hs.2.2
    · exact Heap.get?_update_of_ne _ (fun q => hb (q ▸ List.mem_singleton.mpr rfl)) eo
  done := fun s Q E _ _ hs hQ => by
    have h1 := hs.2.1
    rw [show (xs.size : Int) - 1 - m = -1 by omega] at h1
    exact ri_end hh h1 fun h' hk => hQ h' s.toks fun b o _ e => hk b o e
  own := fun i s v t Q E hs _ hQ => own_plain ⟨_, hs.2.2.1, rfl⟩ (by decide) (hQ s.heap hs.2 hs.1 fun _ _ _ e => e)
  self := fun i s Q E hs hQ => ri_self hs.2.1 hQ

section
variable {G : PG} {d : Nat} {c : Sc}
theorem si_rev {e : E} {y : Str} {p pos : Pos} {z : Expr} (hg : isGlob c y "reversed" = true) (hz : noStar z = true) (he : SE G d c e z) : SI G d c (.rev e) (.Call (.Name y p) [z] [] pos) := by
  intro A env lay Sys base st s F Q X K E hW hK hX
  refine ev_call_t (es := .cons e .nil) (X := X) (Q := fun vs => ∃ u, vs = [u] ∧ seqP st.H u fun ws => Q ws.reverse (depsV u)) F hg (by decide) rfl (ses_cons hz he ses_nil) ?_ ?_ hX
  · simp only [wes_0, wes_1, List.cons.injEq, and_true, exists_eq_left']; exact hW
  · rintro vs vals s₁ ⟨u, rfl, h₁⟩ r k
    apply one_arg r; intro va r1
    · obtain ⟨ws, hws, h₁⟩ := seqP_inv h₁
      have F₁ := F.keeps k
      apply seq_dep F₁.sim.objs r1 hws; intro a xs n hl hsz rx hdep
      refine ri_calls hl (ri_self (Heap.get?_push_size _ rfl) ?_)
      have hne : a ≠ s₁.heap.objs.size := Nat.ne_of_lt (Heap.lt_size hl)
      have hlen : ws.reverse.length = xs.size := (List.length_reverse ..).trans rx.size
      have hsi : (s₁.heap.push (RI a (((xs.size : Nat) : Int) - 1))).get? s₁.heap.objs.size = some (RI a ((xs.size : Int) - 1 - (0 : Nat))) := by
        rw [Heap.get?_push_size _ rfl]; simp
      refine hK _ _ _ _ h₁ (k.trans (Kp.ofH (HK.push _ _))) ⟨[s₁.heap.objs.size, a], [s₁.heap.objs.size], _, _, _, wk_rev (F₁.cold (isGlob_cold hg rfl)) hne xs n hlen, ⟨Nat.zero_le _, hsi, Heap.get?_push_of_some _ hl⟩, ?_, ?_, ?_, ?_⟩
      · intro b hb; rw [List.mem_singleton.mp hb]; exact fresh_keeps k (fresh_size _)
      · intro b hb
        rcases List.mem_cons.mp hb with rfl | hb
        · exact ⟨_, Heap.get?_push_size _ rfl⟩
        · rw [List.mem_singleton.mp hb]; exact ⟨_, Heap.get?_push_of_some _ hl⟩
      · intro b hb hw
        rcases List.mem_cons.mp hb with rfl | hb
        · exact absurd (List.mem_singleton.mpr rfl) hw
        · rw [List.mem_singleton.mp hb]; exact hdep
      · intro i v val h hv hp
        refine item_rv rx.reverse (fresh_size _) (HK.push _ _) hv ?_
        have hi := (List.getElem?_eq_some_iff.mp hv).1
        rw [List.getElem?_reverse (by rw [Array.length_toList]; omega), Array.length_toList, Array.getElem?_toList]
        exact hp
end
end Mine
end

section
set_option autoImplicit false
namespace Mine
open PySem

section
variable {prog : Program} {w : World} {A : Around} {E : Value → Shared → Prop} {s : Shared}

end
/-! enumerate -/
section
variable {G : PG} {d : Nat} {c : Sc}
end
end Mine
end

section
set_option autoImplicit false
namespace Mine
open PySem

section
variable {prog : Program} {w : World} {A : Around} {E : Value → Shared → Prop} {s : Shared} {b1 b2 : Bool} {l1 l2 : Addr} {xs ys : Array Value} {n1 n2 : Nat} {N : Addr} {k : Nat}

end

section
variable {G : PG} {d : Nat} {c : Sc}
end
end Mine
end

section
set_option autoImplicit false
namespace Mine
open PySem PySem.NumText

noncomputable def one1 : List V → (V → Prop) → Prop
  | [u], P => P u
  | _, _ => False
theorem one1_inv {vs : List V} {P : V → Prop} (h : one1 vs P) : ∃ u, vs = [u] ∧ P u := by
  rcases vs with _ | ⟨a, _ | ⟨b, r⟩⟩
  · exact False.elim h
  · exact ⟨_, rfl, h⟩
  · exact False.elim h
/-! int(..) of figures -/
theorem tx_seen {x : Str} {n : Int} {v : Value} {M : Model} {A : Around} {E : Value → Shared → Prop} {s : Shared} {Q : Value → Shared → Prop} (hl : x.length ≤ 100) (hn : intText? x = some n) (h : Q (.int n s.toks) { s with toks := s.toks + 1 }) :
    wpAny M A ((int_private% "intFromText") v (numTextOf x) 10) Q E s := by
  have hs : (numSeenOf x).length ≤ 640 := Nat.le_trans (seen_length x) (Nat.le_trans hl (by decide))
  obtain ⟨e, hr⟩ : ((numSeenOf x).length == (numTextOf x).length) = true ∧ (int_private% "readNumeral") 0 10 (numSeenOf x) = (int_private% "Numeral.value") n := by
    rcases read0 x hs with ⟨m, h1, h2, h3⟩ | ⟨h1, _⟩
    · rw [hn] at h1; cases h1; exact ⟨h2, h3⟩
    · rw [hn] at h1; cases h1
  wp_delta
  refine wpAny_ite_true (decide_eq_true hs) (wpAny_bind (wpAny_pure ?_))
  dsimp only
  rw [hr]
  exact wpAny_ite_true (decide_eq_true e) (wpAny_mkInt h)
theorem str_noint : typeLookup (.type "str") "__int__" = pure none := by rw [typeLookup_type, builtinLookup_eq_fast]; kernel_rfl
theorem str_noidx : typeLookup (.type "str") "__index__" = pure none := by rw [typeLookup_type, builtinLookup_eq_fast]; kernel_rfl
theorem str_notrunc : typeLookup (.type "str") "__trunc__" = pure none := by rw [typeLookup_type, builtinLookup_eq_fast]; kernel_rfl
set_option maxRecDepth 100000 in
theorem tx_new {x : Str} {u : Tok} {n : Int} (hl : x.length ≤ 100) (hn : intText? x = some n) : Gives (Builtin.«int.__new__» ⟨[.type "int", .str x u], []⟩) (.int n) :=
  .of_wp fun M A E s Q h => by
    obtain ⟨hp, g, d, tk, os⟩ := s
    have f1 := F.conv_sub_int
    have f2 := F.madeHere_int
    have f3 := str_noint
    have f4 := str_noidx
    have f5 := str_notrunc
    have f6 : typeOf (.str x u) = pure (.type "str") := rfl
    have ht := fun (v : Value) (s : Shared) (Q : Value → Shared → Prop) => tx_seen (v := v) (M := M) (A := A) (E := E) (s := s) (Q := Q) hl hn
    clear hl hn
    repeat (any_goals (first
      | assumption
      | with_reducible refine ht _ _ _ ?_
      | wp_step))
    all_goals exact ⟨_, rfl, h⟩
theorem allDigits_eq {l : List Nat} (h : allDigits l = true) : AllDigits l := fun c hc => by
  unfold allDigits at h
  rw [List.all_eq_true] at h
  have := h c hc
  simpa using this
section
variable {G : PG} {d : Nat} {c : Sc} {A : Around} {env : Env} {lay : Nat → Option Place} {Sys : Addr → Prop} {base : Heap} {st : St} {s : Shared}

/-- a call of a type on one thing -/
theorem ev_one {n : String} {e : E} {z : Expr} {y : Str} {p pos : Pos} {Q : V → Prop} {X : String → Prop} {K E : Value → Shared → Prop} (F : Fx G d c A env lay Sys base st s) (hg : isGlob c y n = true) (hn : n ∈ bnames) (hv : bval n = .type n) (hz : noStar z = true) (he : SE G d c e z)
    (hW : WE (G.cx d) e st Q X) (hK : ∀ u va s', Q u → RV (NN st.H Sys) s'.heap u va → Kp (FZ A Sys) s s' → wpAny (model G.prog G.w) A (call (.type n) [va]) K E s') (hX : ∀ e s', Rz G.mg A Sys s X e s' → E e s') :
    wpAny (model G.prog G.w) A (eval (.Call (.Name y p) [z] [] pos) env) K E s := by
  refine ev_call_t (es := .cons e .nil) (X := X) (Q := fun vs => one1 vs Q) F hg hn hv (ses_cons hz he ses_nil) hW ?_ hX
  intro vs vals s₁ h₁ r k
  obtain ⟨u, rfl, h₁⟩ := one1_inv h₁
  apply one_arg r; intro va r1
  exact hK u _ s₁ h₁ r1 k

theorem se_int {a : E} {y : Str} {z : Expr} {p pos : Pos} (F : Fx G d c A env lay Sys base st s) (hg : isGlob c y "int" = true) (hz : noStar z = true) (ha : SE G d c a z) :
    Snd G.prog G.w G.mg A (NN st.H Sys) Sys s false (eval (.Call (.Name y p) [z] [] pos) env) (WE (G.cx d) (.intOf a) st) := by
  intro Q X K E hW hK hX
  refine ev_one F hg (by decide) rfl hz ha hW (fun u va s₁ h₁ r k => ?_) hX
  cases u with
  | bool b =>
    apply RV.elim r
    exact call_int_bool (hK _ _ _ h₁ (.int _ _) (k.trans (Kp.tok _ _)) nofun)
  | str x =>
    apply RV.elim r; intro t ho
    obtain ⟨h1, h2, h3, h4⟩ := h₁
    have hn : x.cps.toList ≠ [] := fun q => by
      have : x.cps.toList.length = 0 := by rw [q]; rfl
      rw [Array.length_toList] at this
      exact Nat.ne_of_gt h2 this
    exact call_int_1 (tx_new (u := t) h3 (intText_digits (allDigits_eq h1) hn (Nat.le_trans h3 (by decide)))).meets ⟨rfl, hK _ _ _ h4 (.int _ _) (k.trans (Kp.tok _ _)) nofun⟩
  | _ => exact False.elim h₁
end
end Mine
end

section
set_option autoImplicit false
namespace Mine
open PySem

end Mine
end

section
set_option autoImplicit false
namespace Mine
open PySem

section
variable {G : PG} {d : Nat} {c : Sc} {A : Around} {env : Env} {lay : Nat → Option Place} {Sys : Addr → Prop} {base : Heap} {st : St} {s : Shared} {H : AH}

/-- list(..) of a thing to walk -/
noncomputable abbrev SL (G : PG) (d : Nat) (c : Sc) (it : It) (z : Expr) : Prop :=
  ∀ {A : Around} {env : Env} {lay : Nat → Option Place} {Sys : Addr → Prop} {base : Heap} {st : St} {s : Shared} {y : Str} {p pos : Pos}, Fx G d c A env lay Sys base st s → isGlob c y "list" = true → noStar z = true →
    Snd G.prog G.w G.mg A (NN st.H Sys) Sys s true (eval (.Call (.Name y p) [z] [] pos) env) (WE (G.cx d) (.listOf it) st)

theorem new_at {hsh : HFn} {h h' : Heap} {vs : List V} {xs : Array Value} {n : Nat} {a : Addr} (ho : HO hsh H Sys h) (hsys : ∀ a, Sys a → h.get? a ≠ none) (hf : h.get? a = none) (hl : IsL h' a xs n) (hz : xs.size ≤ sizeLine) (r : RVs (NN H Sys) h' vs xs.toList) :
    RV (NN H Sys) h' (.lst vs) (.ref a) := by
  refine .lst (fun q => ?_) hl hz r
  rcases q with q | q
  · cases e : H a with
    | none => exact q e
    | some o =>
      obtain ⟨ob, e'⟩ := (ho _ _ e).exists
      rw [hf] at e'; cases e'
  · exact hsys _ q hf

theorem RVs.of_get {N : Addr → Prop} {h : Heap} : ∀ {vs : List V} {xs : List Value}, vs.length = xs.length → (∀ (i : Nat) (v : V) (x : Value), vs[i]? = some v → xs[i]? = some x → RV N h v x) → RVs N h vs xs
  | [], [], _, _ => .nil
  | v :: vs, x :: xs, hl, hg => .cons (hg 0 v x rfl rfl) (RVs.of_get (by simpa using hl) fun i u y a b => hg (i + 1) u y (by simpa using a) (by simpa using b))
  | [], _ :: _, hl, _ => by simp at hl
  | _ :: _, [], hl, _ => by simp at hl

theorem list_one {e : E} {z : Expr} {y : Str} {p pos : Pos} {Q : V → Prop} {X : String → Prop} {K E : Value → Shared → Prop} (F : Fx G d c A env lay Sys base st s) (hg : isGlob c y "list" = true) (hz : noStar z = true) (he : SE G d c e z)
    (hW : WE (G.cx d) e st Q X) (hK : ∀ u va s', Q u → RV (NN st.H Sys) s'.heap u va → Kp (FZ A Sys) s s' → wpAny (model G.prog G.w) A (call (.type "list") [va]) K E s') (hX : ∀ e s', Rz G.mg A Sys s X e s' → E e s') :
    wpAny (model G.prog G.w) A (eval (.Call (.Name y p) [z] [] pos) env) K E s := by
  refine ev_call_t (es := .cons e .nil) (X := X) (Q := fun vs => ∃ u, vs = [u] ∧ Q u) F hg (by decide) rfl (ses_cons hz he ses_nil) ?_ ?_ hX
  · simp only [wes_0, wes_1, List.cons.injEq, and_true, exists_eq_left']; exact hW
  · rintro vs vals s₁ ⟨u, rfl, h₁⟩ r k
    cases r with
    | cons r1 r2 => cases r2; exact hK u _ s₁ h₁ r1 k

theorem sl_seq {e : E} {z : Expr} (hcold : c.hot = false) (he : SE G d c e z) : SL G d c (.seq e) z := by
  intro A env lay Sys base st s y p pos F hg hz Q X K E hW hK hX
  simp only [we_0, we_1, we_2, we_3, we_4, we_5, we_6, we_7, we_8, we_9, we_10, we_11, we_12, we_13, we_14, we_15, we_16, we_17, we_18, we_19, we_20, we_21, we_22, we_23, we_24, we_25, we_26, we_27, we_28, we_29, we_30, we_31, we_32, we_33, we_34, we_35, we_36, we_37, wi_0, wi_1, wi_2, wi_3, wi_4, wi_5, wi_6, wi_7, rg1, rg2, rg3] at hW
  refine list_one F hg hz he hW (fun u va s₁ h₁ r₁ k₁ => ?_) hX
  have F₁ := F.keeps k₁
  split at h₁
  · rename_i vs hv
    have fin : ∀ {a : Addr} {xs : Array Value} {n : Nat} {T : String}, T = "list" ∨ T = "tuple" → s₁.heap.get? a = some { cls := .type T, data := .seq xs n } → RVs (NN st.H Sys) s₁.heap vs xs.toList → xs.size ≤ sizeLine →
        wpAny (model G.prog G.w) A (call (.type "list") [.ref a]) K E s₁ := by
      intro a xs n T hT hl r hz
      refine call_list_seq a hT hl rfl rfl (fun h' c' hk hn => ?_) hz
      have kk : Kp (FZ A Sys) s₁ { s₁ with heap := h' } := Kp.ofH hk
      exact hK _ _ _ h₁.2 (new_at F₁.sim.objs F₁.sim.live (fresh_size _) hn hz (r.keeps hk)) (k₁.trans kk) fun _ => (Frsh.mk (s := s₁) (s' := { s₁ with heap := h' }) (fresh_size _) r hk hn hz).before k₁
    cases r₁ with
    | lst b1 b2 b3 b4 => simp [iv_none, iv_bool, iv_int, iv_str, iv_tup, iv_lst, iv_ref, iv_inst, iv_iref, iv_exc, iv_dct] at hv; subst hv; exact fin (.inl rfl) b2 b4 b3
    | tup b1 b2 b3 b4 => simp [iv_none, iv_bool, iv_int, iv_str, iv_tup, iv_lst, iv_ref, iv_inst, iv_iref, iv_exc, iv_dct] at hv; subst hv; exact fin (.inr rfl) b2 b4 b3
    | str u t o =>
      simp [iv_none, iv_bool, iv_int, iv_str, iv_tup, iv_lst, iv_ref, iv_inst, iv_iref, iv_exc, iv_dct] at hv; subst hv
      refine call_list_str (F.cold hcold) u t (fun h' tk acc' c' hk hn hi => ?_) o.1
      have kk : Kp (FZ A Sys) s₁ { s₁ with heap := h', toks := tk } := Kp.of hk
      have hlen : acc'.size = u.cps.size := hi.1
      have rr : ∀ (N : Addr → Prop) (h : Heap), RVs N h (signsOf u) acc'.toList := fun N h => RVs.of_get (by simp [signsOf, hlen]) fun i v x hv hx => ?_
      exact hK _ _ _ h₁.2 (new_at F₁.sim.objs F₁.sim.live (fresh_size _) hn (by rw [hlen]; exact o.1) (rr _ _)) (k₁.trans kk) fun _ => (Frsh.mk (s := s₁) (s' := { s₁ with heap := h', toks := tk }) (fresh_size _) (rr _ _) hk hn (by rw [hlen]; exact o.1)).before k₁
      obtain ⟨cc, tt, hc, rfl⟩ := hi.2 i x (by simpa using hx)
      have hc' : u.cps.toList[i]? = some cc := by rw [Array.getElem?_toList]; exact hc
      simp only [signsOf, List.getElem?_map, hc', Option.map_some, Option.some.injEq] at hv
      subst hv
      exact .str _ _ (o.one (List.mem_of_getElem? hc'))
    | ref ad =>
      simp only [iv_none, iv_bool, iv_int, iv_str, iv_tup, iv_lst, iv_ref, iv_inst, iv_iref, iv_exc, iv_dct] at hv
      split at hv
      · rename_i ws hw
        cases hv
        cases F₁.sim.objs _ _ hw with
        | list b1 b2 b3 => exact fin (.inl rfl) b1 b3 b2
      · cases hv
    | _ => simp [iv_none, iv_bool, iv_int, iv_str, iv_tup, iv_lst, iv_ref, iv_inst, iv_iref, iv_exc, iv_dct] at hv
  · exact h₁.elim

end

end Mine
end

section
set_option autoImplicit false
namespace Mine
open PySem
theorem wl_rev {prog : Program} {w : World} {A : Around} (hh : A.handled = none) {I l : Addr} (hne : l ≠ I) (xs : Array Value) (n : Nat) :
    Walks prog w A I [I, l] [I] xs.size (fun i v => xs[xs.size - 1 - i]? = some v) (fun i h => i ≤ xs.size ∧ h.get? I = some (RI l ((xs.size : Int) - 1 - i)) ∧ IsL h l xs n) where
  sub := fun b hb => by simp at hb; simp [hb]
  frame := fun i h h' hs hk => ⟨hs.1, hk I (List.mem_cons_self ..) _ hs.2.1, hk l (List.mem_cons_of_mem _ (List.mem_cons_self ..)) _ hs.2.2⟩
  item := fun i s Q E hi hs hQ => by
    have e : (xs.size : Int) - 1 - i = ((xs.size - 1 - i : Nat) : Int) := by omega
    have h1 := hs.2.1
    rw [e] at h1
    have hx : xs[xs.size - 1 - i]? = some (xs[xs.size - 1 - i]'(by omega)) := Array.getElem?_eq_getElem (by omega)
    have e2 : ((xs.size - 1 - i : Nat) : Int) - 1 = (xs.size : Int) - 1 - ((i + 1 : Nat) : Int) := by omega
    refine ri_one h1 hs.2.2 hx ?_
    rw [e2]
    refine hQ _ _ s.toks hx ⟨hi, ?_, ?_⟩ fun b o hb eo => ?_
    · exact Heap.get?_update_self _ h1 rfl
    · exact Heap.get?_update_of_ne _ (Ne.symm hne) hs.2.2
    · exact Heap.get?_update_of_ne _ (fun q => hb (q ▸ List.mem_singleton.mpr rfl)) eo
  done := fun s Q E hs hQ => by
    have h1 := hs.2.1
    rw [show (xs.size : Int) - 1 - xs.size = -1 by omega] at h1
    exact ri_end hh h1 fun h' hk => hQ h' s.toks fun b o _ e => hk b o e
  self := fun i s Q E hs hQ => ri_self hs.2.1 hQ
theorem lri_no_len : typeLookup (.type "list_reverseiterator") "__len__" = pure none := by rw [typeLookup_type, builtinLookup_eq_fast]; kernel_rfl
theorem lri_hint : typeLookup (.type "list_reverseiterator") "__length_hint__" = pure (some (.builtin "list_reverseiterator.__length_hint__")) := by rw [typeLookup_type, builtinLookup_eq_fast]; kernel_rfl

section
variable {prog : Program} {w : World} {A : Around} {E : Value → Shared → Prop} {s : Shared}

theorem hint_rev {I l : Addr} {i : Int} {Q : Bool → Shared → Prop} (hr : s.heap.get? I = some (RI l i)) (h : Q false s) : wpAny (model prog w) A (Builtin.List.listLengthHint (.ref I)) Q E s := by
  unfold Builtin.List.listLengthHint
  refine wpAny_bind (wpAny_specialOf ⟨_, hr, rfl⟩ lri_no_len ?_)
  show wpAny _ _ (specialOf (Value.ref I) (Str.ofString "__length_hint__") >>= _) _ _ _
  refine wpAny_bind (wpAny_specialOf ⟨_, hr, rfl⟩ lri_hint ?_)
  generalize hid : ("list_reverseiterator.__length_hint__" : String) = id0
  wp_delta
  rw [show splitId id0 = some ("list_reverseiterator", "__length_hint__") from by subst hid; decide +kernel]
  subst hid
  refine wpAny_bind (wpAny_isInstance (T := "list_reverseiterator") (b := true) ⟨_, hr, rfl⟩ (by rw [isSubtype_type]; kernel_rfl) ?_)
  refine wpAny_ite_split (fun hab => absurd hab (by decide)) (fun _ => ?_)
  refine wpAny_ite_split (fun _ => ?_) (fun hab => absurd (by decide +kernel) hab)
  refine wpAny_ite_split (fun hab => absurd hab (by decide)) (fun _ => ?_)
  exact wpAny_pure h

theorem extend_rev {R : Result → Shared → Prop} (hh : A.handled = none) {I l : Addr} {items : Array Value} (hz : items.size ≤ sizeLine) (hr : s.heap.get? I = some (RI l ((items.size : Int) - 1))) {n : Nat} (hl : IsL s.heap l items n) (S : Addr) (res : Value) (c₀ : Nat)
    (hS : s.heap.get? S = some { cls := .type "list", data := .seq #[] c₀ }) (hne : l ≠ I) (hSl : S ≠ l)
    (hR : ∀ h' tk acc' c', (∀ b o, b ≠ S → b ≠ I → s.heap.get? b = some o → h'.get? b = some o) → h'.get? S = some { cls := .type "list", dict := none, data := .seq acc' c', slots := #[] } →
      ItemsOf (fun i v => items[items.size - 1 - i]? = some v) acc' items.size → R (.ok (.ret res)) { s with heap := h', toks := tk }) :
    wpAny (model prog w) A.in1 (Builtin.List.listExtendWith (.ref S) (.ref I) res)
      (fun fin s' => match fin with | .done f => R (.ok f) s' | .again c' => c'.quiet = true ∧ codeAny (model prog w) A c' R s') (fun e s' => R (.error e) s') s := by
  have hSI : S ≠ I := by
    rintro rfl
    rw [hr] at hS; injection hS with hS; exact absurd (congrArg Obj.cls hS) (by simp [RI])
  have hSf : S ∉ [I, l] := by simp [hSI, hSl]
  have W := (wl_rev (prog := prog) (w := w) (A := A.in1) hh hne items n).toS
  unfold Builtin.List.listExtendWith
  refine wpAny_bind (wpAny_typeOf ⟨_, hr, rfl⟩ ?_)
  have h1 : Builtin.List.listSameRef (.ref S) (.ref I) = false := by simp [Builtin.List.listSameRef, hSI]
  have h2 : (Value.type "list_reverseiterator" == Value.type "list") = false := by decide
  have h3 : (Value.type "list_reverseiterator" == Value.type "tuple") = false := by decide
  simp only [h1, h2, h3, Bool.or_false, Bool.false_eq_true, if_false]
  refine wpAny_bind (ri_self hr ?_)
  refine wpAny_bind (wpAny_holding (hint_rev hr ?_))
  refine wpAny_ite_split (fun hab => absurd hab (by decide +kernel)) (fun _ => ?_)
  refine wpAny_pure ⟨plainId_quiet F.plain_extend_loop _, ?_⟩
  refine codeAny_extend_loopS W hz S hSf res items.size 0 _ #[] c₀ rfl (Nat.zero_le _) ⟨Nat.zero_le _, by simpa using hr, hl⟩ hS (ItemsOf.nil _) fun s' acc' c' hm hS' hacc => ?_
  rw [Moved.eq_with hm]
  refine hR s'.heap s'.toks acc' c' (fun b o hb hb' e => hm.heap b o (fun hmem => ?_) e) hS' hacc
  rcases List.mem_cons.mp hmem with e' | hmem
  · exact hb e'
  · exact hb' (List.mem_singleton.mp hmem)

theorem init_rev {R : Result → Shared → Prop} (hh : A.handled = none) {I l : Addr} {items : Array Value} (hz : items.size ≤ sizeLine) (hr : s.heap.get? I = some (RI l ((items.size : Int) - 1))) {n : Nat} (hl : IsL s.heap l items n) (S : Addr)
    (hS : s.heap.get? S = some { cls := .type "list", data := .seq #[] }) (hne : l ≠ I) (hSl : S ≠ l)
    (hR : ∀ h' tk acc' c', (∀ b o, b ≠ S → b ≠ I → s.heap.get? b = some o → h'.get? b = some o) → h'.get? S = some { cls := .type "list", dict := none, data := .seq acc' c', slots := #[] } →
      ItemsOf (fun i v => items[items.size - 1 - i]? = some v) acc' items.size → R (.ok (.ret .none)) { s with heap := h', toks := tk }) :
    wpAny (model prog w) A.in1 (Builtin.«list.__init__» ⟨[.ref S, .ref I], []⟩)
      (fun fin s' => match fin with | .done f => R (.ok f) s' | .again c' => c'.quiet = true ∧ codeAny (model prog w) A c' R s') (fun e s' => R (.error e) s') s := by
  have hSI : S ≠ I := by
    rintro rfl
    rw [hr] at hS; injection hS with hS; exact absurd (congrArg Obj.cls hS) (by simp [RI])
  show wpAny _ A.in1 (do let old ← Builtin.List.listItems (.ref S); Builtin.List.listUpdate (.ref S) (fun _ => #[]); letGo old.toList.reverse; Builtin.List.listExtendWith (.ref S) (.ref I) .none) _ _ s
  refine wpAny_bind ?_
  unfold Builtin.List.listItems
  refine wpAny_bind (wpAny_seqItems hS rfl (wpAny_pure ?_))
  show wpAny _ A.in1 (updateSeq S (fun _ => #[]) >>= fun _ => letGo (#[] : Array Value).toList.reverse >>= fun _ => Builtin.List.listExtendWith (.ref S) (.ref I) .none) _ _ s
  refine wpAny_bind (wpAny_updateSeq hS rfl ?_)
  have hS₂ := Heap.get?_update_self (Obj.mapSeq (fun _ => (#[] : Array Value))) hS rfl
  have oth : ∀ b o, b ≠ S → s.heap.get? b = some o → (s.heap.update S (Obj.mapSeq (fun _ => (#[] : Array Value)))).get? b = some o :=
    fun b o hb e => (Heap.get?_update_other _ _ (Ne.symm hb)).trans e
  refine wpAny_bind (wpAny_letGo ?_)
  refine extend_rev hh hz (oth I _ (Ne.symm hSI) hr) (oth l _ (Ne.symm hSl) hl) S .none _ hS₂ hne hSl fun h' tk acc' c' hk hS' hacc => ?_
  exact hR h' tk acc' c' (fun b o hb hb' e => hk b o hb hb' (oth b o hb e)) hS' hacc

theorem call_list_rev {Q : Value → Shared → Prop} (hh : A.handled = none) {I l : Addr} {items : Array Value} (hz : items.size ≤ sizeLine) (hr : s.heap.get? I = some (RI l ((items.size : Int) - 1))) {n : Nat} (hl : IsL s.heap l items n) (hne : l ≠ I)
    (hQ : ∀ h' tk acc' c', (∀ b o, b ≠ I → s.heap.get? b = some o → h'.get? b = some o) →
      h'.get? s.heap.objs.size = some { cls := .type "list", dict := none, data := .seq acc' c', slots := #[] } → ItemsOf (fun i v => items[items.size - 1 - i]? = some v) acc' items.size → Q (.ref s.heap.objs.size) { s with heap := h', toks := tk }) :
    wpAny (model prog w) A (call (.type "list") [.ref I]) Q E s := by
  refine callType_codes (Q₁ := fun obj s₁ => obj = .ref s.heap.objs.size ∧ s₁ = { s with heap := s.heap.push { cls := .type "list", data := .seq #[] } }) F.called_list (F.typeCall_list_1 _) F.entry_list_init
    (code_list_new _ ⟨rfl, rfl⟩) fun obj s₁ h₁ => ?_
  obtain ⟨rfl, rfl⟩ := h₁
  have hS : (s.heap.push { cls := .type "list", data := .seq #[] }).get? s.heap.objs.size = some { cls := .type "list", data := .seq #[] } := Heap.get?_push_size _ rfl
  refine ⟨⟨_, hS, rfl⟩, F.args_list_init_2 _ _, init_rev (A := A.in1) hh hz (Heap.get?_push_of_some _ hr) (Heap.get?_push_of_some _ hl) _ hS hne (Ne.symm (Nat.ne_of_lt (Heap.lt_size hl))) fun h' tk acc' c' hk hS' hacc => ?_⟩
  exact ⟨rfl, hQ h' tk acc' c' (fun b o hb e => hk b o (Nat.ne_of_lt (Heap.lt_size e)) hb (Heap.get?_push_of_some _ e)) hS' hacc⟩
end

section
variable {G : PG} {d : Nat} {c : Sc}
theorem sl_rev {e : E} {y' : Str} {p' pos' : Pos} {z : Expr} (hg' : isGlob c y' "reversed" = true) (hz' : noStar z = true) (he : SE G d c e z) : SL G d c (.rev e) (.Call (.Name y' p') [z] [] pos') := by
  intro A env lay Sys base st s y p pos F hg hz Q X K E hW hK hX
  rw [arm_eval_Call_Name']
  refine wpAny_bind (ld_bltn F hg (by decide) ?_)
  rw [show bval "list" = .type "list" from rfl]
  refine callWith_type (star_plain pos env [.Call (.Name y' p') [z] [] pos'] rfl) ?_
  refine Calls.evalArgs_plain (Calls.spliced_cons ?_)
  refine ev_call_t (es := .cons e .nil) (X := X) (Q := fun vs => ∃ u, vs = [u] ∧ match seqL st.H u with | some ws => ws.reverse.length ≤ sizeLine ∧ Q (.lst ws.reverse) | none => False) F hg' (by decide) rfl (ses_cons hz' he ses_nil) ?_ ?_ hX
  · simp only [wes_0, wes_1, List.cons.injEq, and_true, exists_eq_left']; exact hW
  · rintro vs vals s₁ ⟨u, rfl, h₁⟩ r k
    apply one_arg r; intro va r1
    · split at h₁
      · rename_i ws hws
        have F₁ := F.keeps k
        apply seq_val F₁.sim.objs r1 hws; intro a xs n hl hsz rx
        have hne : a ≠ s₁.heap.objs.size := Nat.ne_of_lt (Heap.lt_size hl)
        refine ri_calls hl (Calls.spliced_nil ?_)
        have hk1 : HK s₁.heap (s₁.heap.push (RI a ((xs.size : Int) - 1))) := HK.push _ _
        refine call_list_rev (F.cold (isGlob_cold hg' rfl)) hsz (I := s₁.heap.objs.size) (l := a) (Heap.get?_push_size _ rfl) (Heap.get?_push_of_some _ hl) hne fun h' tk acc' c' hk hn hi => ?_
        have kh : HK s₁.heap h' := fun b o e => hk b o (Nat.ne_of_lt (Heap.lt_size e)) (hk1 b o e)
        have kk : Kp (FZ A Sys) s₁ { s₁ with heap := h', toks := tk } := Kp.of kh
        have hlen : acc'.size = xs.size := hi.1
        have hf : s₁.heap.get? (s₁.heap.push (RI a ((xs.size : Int) - 1))).objs.size = none := Heap.get?_none_of_le (by rw [Heap.size_push]; omega)
        have hws' := rx.size
        have rr : RVs (NN st.H Sys) s₁.heap ws.reverse acc'.toList := RVs.of_get (by simp [hws', hlen]) fun i v x hv hx => ?_
        exact hK _ _ _ h₁.2 (new_at F₁.sim.objs F₁.sim.live hf hn (by omega) (rr.kz kk.hw)) (k.trans kk) fun _ => (Frsh.mk (s := s₁) (s' := { s₁ with heap := h', toks := tk }) hf rr kh hn (by omega)).before k
        have hp := hi.2 i x (by simpa using hx)
        obtain ⟨x', e', rx'⟩ := (rx.reverse).get i hv
        have hi' : i < xs.size := by
          rcases Nat.lt_or_ge i ws.reverse.length with h | h
          · simpa [hws'] using h
          · rw [List.getElem?_eq_none h] at hv; cases hv
        rw [List.getElem?_reverse (by rw [Array.length_toList]; omega), Array.length_toList, Array.getElem?_toList, hp] at e'
        cases e'
        exact rx'
      · exact h₁.elim
end
end Mine
end

section
set_option autoImplicit false
namespace Mine
open PySem

theorem cut_mem {α : Type} {xs : List α} {lo hi : Nat} {x : α} (h : x ∈ cutL xs lo hi) : x ∈ xs := List.mem_of_mem_drop (List.mem_of_mem_take h)
theorem cut_len {α : Type} (xs : List α) (lo hi : Nat) : (cutL xs lo hi).length ≤ xs.length := by simp [cutL]; omega
theorem RVs.cut {N : Addr → Prop} {h : Heap} {vs : List V} {xs : List Value} (r : RVs N h vs xs) (lo hi : Nat) : RVs N h (cutL vs lo hi) (cutL xs lo hi) := by
  have hl := r.length
  refine RVs.of_get (by simp [cutL, hl]) fun i v x hv hx => ?_
  simp only [cutL, List.getElem?_take, List.getElem?_drop] at hv hx
  split at hv
  · rename_i hlt
    rw [if_pos hlt] at hx
    obtain ⟨x', e, rx⟩ := r.get _ hv
    rw [hx] at e; cases e; exact rx
  · cases hv

theorem bnd_part {N : Addr → Prop} {h : Heap} {n e : Nat} {v : V} {x : Value} {k : Nat} (r : RV N h v x) (hb : bnd n e v = some k) : ∃ o : Option Int, IsPart x o ∧ k = o.elim e (clipAt n) ∧ ∃ l : Option (Int × Tok), x = partValue l ∧ l.map (·.1) = o := by
  cases r <;> simp [bn_none, bn_int, bn_bool, bn_str, bn_tup, bn_lst, bn_ref, bn_inst, bn_iref, bn_exc, bn_dct] at hb
  · exact ⟨none, .none, hb.symm, none, rfl, rfl⟩
  · rename_i i t
    exact ⟨some i, .int i t, hb.symm, some (i, t), rfl, rfl⟩

theorem strIdx (lo hi : Option Int) (n : Nat) : Builtin.Str.strSliceIndices lo hi 1 n = sliceRange ((lo.elim 0 (clipAt n) : Nat) : Int) ((hi.elim n (clipAt n) : Nat) : Int) 1 := by
  unfold Builtin.Str.strSliceIndices
  cases lo <;> cases hi <;> simp [clipAt_cast]

section
variable {G : PG} {d : Nat} {c : Sc} {A : Around} {env : Env} {lay : Nat → Option Place} {Sys : Addr → Prop} {base : Heap} {st : St} {s : Shared} {H : AH}

/-- a bound of a cut: written, or none -/
noncomputable abbrev SP (G : PG) (d : Nat) (c : Sc) (e : E) (x : Option Expr) : Prop := match x with
  | some x => SE G d c e x
  | none => e = .none

theorem sp_eval {e : E} {x : Option Expr} {Q : V → Prop} {X : String → Prop} {K E : Value → Shared → Prop} (h : SP G d c e x) (F : Fx G d c A env lay Sys base st s) (hW : WE (G.cx d) e st Q X)
    (hK : ∀ v val s', Q v → RV (NN st.H Sys) s'.heap v val → Kp (FZ A Sys) s s' → K val s') (hX : ∀ e s', Rz G.mg A Sys s X e s' → E e s') : wpAny (model G.prog G.w) A (evalPart x env) K E s := by
  cases x with
  | none =>
    have h : e = .none := h
    subst h
    rw [evalPart_none]
    exact wpAny_pure (hK _ _ _ (by simpa [we_0, we_1, we_2, we_3, we_4, we_5, we_6, we_7, we_8, we_9, we_10, we_11, we_12, we_13, we_14, we_15, we_16, we_17, we_18, we_19, we_20, we_21, we_22, we_23, we_24, we_25, we_26, we_27, we_28, we_29, we_30, we_31, we_32, we_33, we_34, we_35, we_36, we_37] using hW) .none (Kp.refl s))
  | some x =>
    rw [evalPart_some]
    exact (show SE G d c e x from h) F |>.weak _ X _ E hW (fun v val s' q r k _ => hK v val s' q r k) hX

theorem prim_slice {value : Expr} {lower upper : Option Expr} {p : Pos} {u lv hv : V} {a l h : Value} {Q : V → Prop} {K E : Value → Shared → Prop} (F : Fx G d c A env lay Sys base st s) (hW : sliceV st.H u lv hv Q)
    (ra : RV (NN st.H Sys) s.heap u a) (rl : RV (NN st.H Sys) s.heap lv l) (rh : RV (NN st.H Sys) s.heap hv h)
    (hK : ∀ r val s', Q r → RV (NN st.H Sys) s'.heap r val → Kp (FZ A Sys) s s' → K val s') :
    wpAny (model G.prog G.w) A (PyProof.Rows.subscriptTail value (.Slice lower upper none p) a (.ref s.heap.objs.size)) K E { s with heap := s.heap.push { cls := .type "slice", data := .fields #[l, h, .none] } } := by
  have k1 : Kp (FZ A Sys) s { s with heap := s.heap.push { cls := .type "slice", data := .fields #[l, h, .none] } } := Kp.ofH (HK.push _ _)
  have F₁ := F.keeps k1
  unfold sliceV at hW
  split at hW
  · rename_i x
    cases ra with
    | str _ t hx =>
      split at hW
      · rename_i i j hi hj
        obtain ⟨oi, pi, ei, li, vi, mi⟩ := bnd_part rl hi
        obtain ⟨oj, pj, ej, lj, vj, mj⟩ := bnd_part rh hj
        subst vi vj
        refine PyProof.Rows.tail_any (typeIs_str _ x t) PySem.F.slot_str_getitem.lookup (wpAny_getItem_str_slice (l := li) (u := lj) (st := none) ⟨_, Heap.get?_push_size _ rfl, rfl, rfl⟩ rfl ?_) rfl
        have hpick : slicePicked x li lj none = (List.range (j - i)).map (i + ·) := by
          unfold slicePicked
          rw [mi, mj]
          show Builtin.Str.strSliceIndices oi oj 1 x.length = _
          rw [strIdx, ← ei, ← ej, sliceRange_one]
        have hcut : (slicePicked x li lj none).filterMap (x.cps[·]?) = cutL x.cps.toList i j := by rw [hpick, pick_run]; rfl
        have hok : SOk ⟨(cutL x.cps.toList i j).toArray⟩ := hx.sub (by have := cut_len x.cps.toList i j; simpa [Str.length] using this) fun c hc => cut_mem hc
        unfold sliceMade
        split
        · rename_i hw
          have hlen : (slicePicked x li lj none).length = x.length := by simpa using hw
          have hwhole : cutL x.cps.toList i j = x.cps.toList := by
            have h1 : j - i = x.cps.size := by rw [hpick] at hlen; simpa [Str.length] using hlen
            have hj' : j ≤ x.cps.size := by
              rw [ej]
              cases oj with
              | none => exact Nat.le_refl _
              | some z => show clipAt x.cps.size z ≤ _; unfold clipAt; omega
            have h0 : x.cps.size = 0 ∨ i = 0 := by omega
            have : x.cps.toList.length = x.cps.size := Array.length_toList
            rcases h0 with h0 | h0
            · have : x.cps.toList = [] := List.eq_nil_of_length_eq_zero (by omega)
              rw [this]; simp [cutL]
            · subst h0
              simp only [cutL, List.drop_zero]
              exact List.take_of_length_le (by omega)
          rw [hwhole] at hW
          exact hK _ _ _ hW (.str _ _ hx) k1
        · refine ⟨?_, ?_⟩
          · rw [hcut]; exact hok.1
          · rw [hcut]
            exact hK _ _ _ hW (.str _ _ hok) (k1.trans (Kp.tok _ _))
      · exact hW.elim
  · split at hW
    · rename_i vs hvs
      split at hW
      · rename_i i j hi hj
        obtain ⟨oi, pi, ei, _⟩ := bnd_part rl hi
        obtain ⟨oj, pj, ej, _⟩ := bnd_part rh hj
        apply seq_val F.sim.objs ra hvs; intro ad xs n hl hz rx
        have hsz := rx.size
        have hl1 := hl.isList.push { cls := .type "slice", data := .fields #[l, h, .none] }
        refine PyProof.Rows.tail_any hl1.typeIs slot_list_getitem.lookup (wpAny_getItem_list_slice hl1 (Heap.IsSliceOf.new ..) pi pj .none (by simp) ?_ hz) rfl
        have hpick : slicePick xs oi oj none = (cutL xs.toList i j).toArray := by
          rw [slicePick_plain, ei, ej, hsz]; rfl
        rw [hpick]
        exact hK _ _ _ hW (new_lst F₁.sim.objs F₁.sim.live (by simpa using (rx.kz k1.hw).cut i j) (by have := cut_len xs.toList i j; simp at this ⊢; omega)) (k1.trans (Kp.ofH (HK.push _ _)))
      · exact hW.elim
    · exact hW.elim

theorem se_slice {a lo hi : E} {y : Expr} {lower upper : Option Expr} {p pos : Pos} (F : Fx G d c A env lay Sys base st s) (ha : SE G d c a y) (hl : SP G d c lo lower) (hh : SP G d c hi upper) :
    Snd G.prog G.w G.mg A (NN st.H Sys) Sys s false (eval (.Subscript y (.Slice lower upper none p) pos) env) (WE (G.cx d) (.slice a lo hi) st) := by
  intro Q X K E hW hK hX
  simp only [we_0, we_1, we_2, we_3, we_4, we_5, we_6, we_7, we_8, we_9, we_10, we_11, we_12, we_13, we_14, we_15, we_16, we_17, we_18, we_19, we_20, we_21, we_22, we_23, we_24, we_25, we_26, we_27, we_28, we_29, we_30, we_31, we_32, we_33, we_34, we_35, we_36, we_37] at hW
  refine PyProof.Rows.Subscript_ ((ha F).weak _ X _ E hW (fun u va s₁ h₁ r₁ k₁ _ => ?_) hX)
  have F₁ := F.keeps k₁
  refine wpAny_Slice (sp_eval hl F₁ h₁ (fun lv l s₂ h₂ r₂ k₂ => ?_) fun e s' q => hX e s' (Rz.trans k₁ q))
  have F₂ := F₁.keeps k₂
  refine sp_eval hh F₂ h₂ (fun hv h s₃ h₃ r₃ k₃ => ?_) fun e s' q => hX e s' (Rz.trans (k₁.trans k₂) q)
  have F₃ := F₂.keeps k₃
  rw [evalPart_none]
  refine wpAny_pure ?_
  exact prim_slice F₃ h₃ (r₁.kz (k₂.trans k₃).hw) (r₂.kz k₃.hw) r₃ fun r val s' q rv k => hK r val s' q rv (((k₁.trans k₂).trans k₃).trans k) nofun

theorem strs_are {N : Addr → Prop} {h : Heap} : ∀ {vs : List V} {xs : List Value} {ys : List Str}, RVs N h vs xs → strsOf vs = some ys → PyProof.Rows.StrsAre xs ys ∧ ∀ y ∈ ys, SOk y
  | _, _, ys, .nil, e => by simp [so_nil, so_none, so_bool, so_int, so_str, so_tup, so_lst, so_ref, so_inst, so_iref, so_exc, so_dct] at e; subst e; exact ⟨.nil, by simp⟩
  | _, _, ys, .cons r1 r2, e => by
    cases r1 <;> simp [so_nil, so_none, so_bool, so_int, so_str, so_tup, so_lst, so_ref, so_inst, so_iref, so_exc, so_dct] at e
    rename_i s0 t0 ho
    obtain ⟨zs, e1, rfl⟩ := e
    obtain ⟨h1, h2⟩ := strs_are r2 e1
    exact ⟨.cons _ _ h1, by simp; exact ⟨ho, h2⟩⟩
theorem lenAll_eq : ∀ ys : List Str, lenAll ys = (ys.map (·.length)).sum
  | [] => rfl
  | y :: ys => by simp [la_nil, la_cons, lenAll_eq ys]

theorem join_mem {sep : Str} : ∀ {ys : List Str} {ch : Nat}, ch ∈ (Str.join sep ys).cps.toList → ch ∈ sep.cps.toList ∨ ∃ y ∈ ys, ch ∈ y.cps.toList
  | [], ch, h => by simp [Str.join, Str.empty] at h
  | [y], ch, h => .inr ⟨y, by simp, h⟩
  | y :: z :: r, ch, h => by
    have e : (Str.join sep (y :: z :: r)) = y ++ sep ++ Str.join sep (z :: r) := rfl
    rw [e] at h
    have e2 : (y ++ sep ++ Str.join sep (z :: r)).cps = y.cps ++ sep.cps ++ (Str.join sep (z :: r)).cps := rfl
    rw [e2] at h
    simp only [Array.toList_append, List.mem_append] at h
    rcases h with (h | h) | h
    · exact .inr ⟨y, by simp, h⟩
    · exact .inl h
    · rcases join_mem h with h | ⟨u, hu, h⟩
      · exact .inl h
      · exact .inr ⟨u, by simp at hu ⊢; exact .inr hu, h⟩

theorem se_join {a : E} {t : Str} {k : Nat} {z : Expr} {p ap pos : Pos} (F : Fx G d c A env lay Sys base st s) (hline : (ap.endLine == pos.line) = true) (ht : SOk t) (hz : noStar z = true) (ha : SE G d c a z) :
    Snd G.prog G.w G.mg A (NN st.H Sys) Sys s false (eval (.Call (.Attribute (.Constant (.str t) k p) (Str.ofString "join") ap) [z] [] pos) env) (WE (G.cx d) (.join (.str t) a) st) := by
  intro Q X K E hW hK hX
  simp only [we_0, we_1, we_2, we_3, we_4, we_5, we_6, we_7, we_8, we_9, we_10, we_11, we_12, we_13, we_14, we_15, we_16, we_17, we_18, we_19, we_20, we_21, we_22, we_23, we_24, we_25, we_26, we_27, we_28, we_29, we_30, we_31, we_32, we_33, we_34, we_35, we_36, we_37] at hW
  refine wpAny_Call_method (T := "str") (id := "str.join") rfl (by rw [starEach_cons hz]; rfl) hline PySem.F.plainAttrs_str PySem.F.slot_str_join PySem.F.type_str_join ?_
  refine wpAny_Constant_str ⟨typeIs_str _ _ _, nofun, ?_⟩
  have k₁ : Kp (FZ A Sys) s { s with toks := s.toks + 1 } := Kp.tok s _
  have F₁ := F.keeps k₁
  rw [starEach_cons hz]
  refine Calls.callWith_builtin rfl (Calls.evalArgs_plain (Calls.spliced_cons ((ha F₁).weak _ X _ E hW (fun v va s₂ h₂ r₂ k₂ _ => Calls.spliced_nil ?_) fun e s' q => hX e s' (Rz.trans k₁ q))))
  have F₂ := F₁.keeps k₂
  split at h₂
  · rename_i _ ss e1 e2
    cases e1
    simp only [Option.bind_eq_some_iff] at e2
    obtain ⟨vs, e3, e4⟩ := e2
    apply seq_val F₂.sim.objs r₂ e3; intro ad xs n hl hsz rx
    obtain ⟨h1, h2⟩ := strs_are rx e4
    have hok : (ss.map (·.length)).sum + ss.length * t.length ≤ 16777216 := by
      rw [← lenAll_eq, Nat.mul_comm]; exact h₂.1
    refine PyProof.Rows.join_list hl.isList h1 hok fun t' tk => ?_
    have ej : Txt.join t ss = Str.join t ss := StrLaws.glued_eq_join t ss
    rw [ej]
    refine hK _ _ _ h₂.2 (.str _ _ ⟨?_, fun ch hc => ?_⟩) ((k₁.trans k₂).trans (Kp.tok _ _)) nofun
    · exact Nat.le_trans (StrLaws.join_length_le t ss) hok
    · rcases join_mem hc with h | ⟨y, hy, h⟩
      · exact ht.2 ch h
      · exact (h2 y hy).2 ch h
  · exact h₂.elim
end

section
variable {G : PG} {d : Nat} {c : Sc} {A : Around} {env : Env} {lay : Nat → Option Place} {Sys : Addr → Prop} {base : Heap} {st : St} {s : Shared}

theorem intsP_inv {vs : List V} {P : List Int → Prop} (h : intsP vs P) : ∃ is, intsOf vs = some is ∧ P is := by
  unfold intsP at h
  cases e : intsOf vs with
  | none => rw [e] at h; exact False.elim h
  | some x => rw [e] at h; exact ⟨_, rfl, h⟩
theorem ints_items {N : Addr → Prop} {h : Heap} : ∀ (is : List Int) {vs : List V} {xs : List Value}, RVs N h vs xs → intsOf vs = some is → ∃ ps : List (Int × Tok), xs = ps.map (fun p => Value.int p.1 p.2) ∧ ps.map (·.1) = is := by
  intro is vs
  induction vs generalizing is with
  | nil => intro xs r e; cases r; cases e; exact ⟨[], rfl, rfl⟩
  | cons v vs ih =>
    intro xs r e
    cases r with
    | cons r1 r2 =>
      cases r1 with
      | int i t =>
        obtain ⟨js, e1, rfl⟩ := Option.map_eq_some_iff.mp e
        obtain ⟨ps, rfl, rfl⟩ := ih js r2 e1
        exact ⟨(i, t) :: ps, rfl, rfl⟩
      | _ => cases e
theorem ints_val {hsh : HFn} {H : AH} {Sys : Addr → Prop} {h : Heap} (ho : HO hsh H Sys h) {v : V} {x : Value} {W : List Int → Prop} {P : Value → Prop} (hW : seqP H v fun vs => intsP vs W) (r : RV (NN H Sys) h v x)
    (k : ∀ l (ps : List (Int × Tok)) n, IsL h l (intItems ps.toArray) n → W (ps.map (·.1)) → P (.ref l)) : P x := by
  obtain ⟨ws, e1, q⟩ := seqP_inv hW
  obtain ⟨is, e2, q⟩ := intsP_inv q
  apply seq_val ho r e1; intro l xs n hl _ rx
  obtain ⟨ps, e3, rfl⟩ := ints_items _ rx e2
  have e4 : xs = intItems ps.toArray := by apply Array.ext'; rw [e3]; simp [intItems]
  exact k l ps n (e4 ▸ hl) q
theorem two_ints {N : Addr → Prop} {h : Heap} {vs : List V} {vals : List Value} {W : Int → Int → Prop} {P : List Value → Prop} (q : int2 vs W) (r : RVs N h vs vals) (k : ∀ i j t t', W i j → P [.int i t, .int j t']) : P vals := by
  rcases vs with _ | ⟨a, _ | ⟨b, _ | ⟨e, r⟩⟩⟩
  · exact False.elim q
  · exact False.elim q
  · apply RVs.elim r; intro x xs r1 r2
    apply one_arg r2; intro y r3
    apply int_val q r1; intro i t q
    apply int_val q r3; intro j t' q
    exact k i j t t' q
  · exact False.elim q
theorem sum1_val {N : Addr → Prop} {h : Heap} {H : AH} {vs : List V} {vals : List Value} {W : Int → Prop} {P : List Value → Prop} (q : sum1 H vs W) (r : RVs N h vs vals) (k : ∀ u x, RV N h u x → (seqP H u fun vs => intsP vs fun is => W is.sum) → P [x]) : P vals := by
  rcases vs with _ | ⟨a, _ | ⟨b, r⟩⟩
  · exact False.elim q
  · apply one_arg r; intro x r1; exact k a x r1 q
  · exact False.elim q

theorem se_sum {a : E} {y : Str} {z : Expr} {p pos : Pos} (F : Fx G d c A env lay Sys base st s) (hg : isGlob c y "sum" = true) (hz : noStar z = true) (ha : SE G d c a z) :
    Snd G.prog G.w G.mg A (NN st.H Sys) Sys s false (eval (.Call (.Name y p) [z] [] pos) env) (WE (G.cx d) (.sum a) st) := by
  intro Q X K E hW hK hX
  refine ev_call_b (es := .cons a .nil) (X := X) (Q := fun vs => sum1 st.H vs fun n => Q (.int n)) F hg (by decide) rfl (ses_cons hz ha ses_nil) hW ?_ hX
  intro vs vals s₁ q r k
  apply sum1_val q r; intro u x r1 q
  apply ints_val (F.keeps k).sim.objs q r1; intro l ps n hl q
  refine sum_intListG (F.cold (isGlob_cold hg rfl)) (IsL.isList hl) fun h' tk t' hk => ?_
  have e5 : preSum (numAt ps.toArray) ps.toArray.size = (ps.map (·.1)).sum := by rw [preSum_eq, List.take_of_length_le (by simp)]
  rw [e5]
  exact hK _ _ _ q (.int _ _) (k.trans (Kp.of hk)) nofun
theorem se_max2 {a b : E} {y : Str} {z u : Expr} {p pos : Pos} (F : Fx G d c A env lay Sys base st s) (hg : isGlob c y "max" = true) (hz : noStar z = true) (hu : noStar u = true) (ha : SE G d c a z) (hb : SE G d c b u) :
    Snd G.prog G.w G.mg A (NN st.H Sys) Sys s false (eval (.Call (.Name y p) [z, u] [] pos) env) (WE (G.cx d) (.max2 a b) st) := by
  intro Q X K E hW hK hX
  refine ev_call_b (es := .cons a (.cons b .nil)) (X := X) (Q := fun vs => int2 vs fun i j => Q (.int (if j > i then j else i))) F hg (by decide) rfl (ses_cons hz ha (ses_cons hu hb ses_nil)) hW ?_ hX
  intro vs vals s₁ q r k
  apply two_ints q r; intro i j t1 t2 q
  refine max_two_ints (F.cold (isGlob_cold hg rfl)) fun h' tk hk => ?_
  have e : (if j > i then Value.int j t2 else Value.int i t1) = .int (if j > i then j else i) (if j > i then t2 else t1) := by split <;> rfl
  rw [e]
  exact hK _ _ _ q (.int _ _) (k.trans (Kp.of hk)) nofun
theorem se_min2 {a b : E} {y : Str} {z u : Expr} {p pos : Pos} (F : Fx G d c A env lay Sys base st s) (hg : isGlob c y "min" = true) (hz : noStar z = true) (hu : noStar u = true) (ha : SE G d c a z) (hb : SE G d c b u) :
    Snd G.prog G.w G.mg A (NN st.H Sys) Sys s false (eval (.Call (.Name y p) [z, u] [] pos) env) (WE (G.cx d) (.min2 a b) st) := by
  intro Q X K E hW hK hX
  refine ev_call_b (es := .cons a (.cons b .nil)) (X := X) (Q := fun vs => int2 vs fun i j => Q (.int (if j < i then j else i))) F hg (by decide) rfl (ses_cons hz ha (ses_cons hu hb ses_nil)) hW ?_ hX
  intro vs vals s₁ q r k
  apply two_ints q r; intro i j t1 t2 q
  refine min_two_ints (F.cold (isGlob_cold hg rfl)) fun h' tk hk => ?_
  have e : (if j < i then Value.int j t2 else Value.int i t1) = .int (if j < i then j else i) (if j < i then t2 else t1) := by split <;> rfl
  rw [e]
  exact hK _ _ _ q (.int _ _) (k.trans (Kp.of hk)) nofun
end

/-- the greatest so far -/
noncomputable def bst : Option Int → List Int → Option Int
  | b, [] => b
  | none, x :: r => bst (some x) r
  | some m, x :: r => bst (some (if x > m then x else m)) r
theorem bst_some : ∀ (r : List Int) (m : Int), bst (some m) r = some (maxI m r)
  | [], _ => rfl
  | x :: r, m => bst_some r _
noncomputable def Bx : Option Int → Array Value → Prop
  | none, a => a = #[]
  | some m, a => ∃ t, a = #[.int m t, .int m t]
noncomputable def Rs (d : Value) : Option Int → Value → Prop
  | none, v => v = d
  | some m, v => ∃ t, v = .int m t

section
variable {prog : Program} {w : World} {A : Around} {R : Result → Shared → Prop} {I : Addr} {fp wr : List Addr} {n : Nat} {P : Nat → Value → Prop} {St : Nat → Heap → Prop}

theorem max_go (W : Walks prog w A.in1 I fp wr n P St) (ns : List Int) (hns : ns.length = n) (hP : ∀ i v, P i v → ∃ t, v = Value.int (ns.getD i 0) t) (S : Addr) (hSf : S ∉ fp) (dn : Str) (dv : Value) :
    ∀ (k j : Nat) (s : Shared) (b : Option Int) (items : Array Value) (c : Nat), n - j = k → j ≤ n → St j s.heap → Bx b items →
    s.heap.get? S = some { cls := .type "list", dict := none, data := .seq items c, slots := #[] } →
    (∀ v h' tk, Rs dv (bst b (ns.drop j)) v → (∀ b o, b ∉ wr → b ≠ S → s.heap.get? b = some o → h'.get? b = some o) → R (.ok (.ret v)) { s with heap := h', toks := tk }) →
    codeAny (model prog w) A (.builtin "max.loop" ⟨[.ref I, .none, .ref S], [(dn, dv)]⟩) R s := by
  have hSw : S ∉ wr := fun h => hSf (W.sub _ h)
  have hname : (toString "max" ++ toString ".loop" : String) = "max.loop" := by decide
  intro k
  induction k with
  | zero =>
    intro j s b items c hk hj hst hb hS hR
    have hin : j = n := by omega
    subst hin
    have hdrop : ns.drop j = [] := List.drop_of_length_le (by omega)
    rw [hdrop] at hR
    refine codeAny_builtin F.entry_max_loop ?_
    rw [Around.under_plainId F.plain_max_loop _]
    show wpAny _ A.in1 (seqItems? (.ref S) >>= _) _ _ s
    refine wpAny_bind (wpAny_seqItems hS rfl ?_)
    show wpAny _ A.in1 (tryCatch (pyNext (.ref I)) _ >>= _) _ _ s
    refine wpAny_bind (wpAny_tryCatch (W.done s _ _ hst fun h' tk hk' => ?_))
    have hS' := hk' S _ hSw hS
    cases b with
    | none =>
      cases hb
      refine wpAny_bind (wpAny_rule ?_)
      exact wpAny_pure (hR dv _ tk rfl fun b o hbw _ e => hk' b o hbw e)
    | some m =>
      obtain ⟨t, rfl⟩ := hb
      show wpAny _ A.in1 (updateSeq S (fun _ => #[]) >>= _) _ _ _
      refine wpAny_bind ?_
      refine wpAny_updateSeq hS' rfl (wpAny_bind (wpAny_letGo (wpAny_pure ?_)))
      exact hR _ _ tk ⟨t, rfl⟩ fun b o hbw hbS e => (Heap.get?_update_other _ _ (Ne.symm hbS)).trans (hk' b o hbw e)
  | succ k ih =>
    intro j s b items c hk hj hst hb hS hR
    have hlt : j < n := by omega
    have hdrop : ns.drop j = ns.getD j 0 :: ns.drop (j + 1) := by
      rw [List.drop_eq_getElem_cons (by omega)]
      simp [List.getD, List.getElem?_eq_getElem (show j < ns.length by omega)]
    rw [hdrop] at hR
    refine codeAny_builtin F.entry_max_loop ?_
    rw [Around.under_plainId F.plain_max_loop _]
    show wpAny _ A.in1 (seqItems? (.ref S) >>= _) _ _ s
    refine wpAny_bind (wpAny_seqItems hS rfl ?_)
    show wpAny _ A.in1 (tryCatch (pyNext (.ref I)) _ >>= _) _ _ s
    refine wpAny_bind (wpAny_tryCatch (W.item j s _ _ hlt hst fun v h' tk hPv hst' hk' => ?_))
    have hS' := hk' S _ hSw hS
    obtain ⟨tv, rfl⟩ := hP _ _ hPv
    cases b with
    | none =>
      cases hb
      show wpAny _ A.in1 (updateSeq S (fun _ => #[.int (ns.getD j 0) tv, .int (ns.getD j 0) tv]) >>= _) _ _ _
      refine wpAny_bind ?_
      refine wpAny_updateSeq hS' rfl ?_
      rw [hname]
      refine wpAny_pure ⟨plainId_quiet F.plain_max_loop _, ih (j + 1) _ (some (ns.getD j 0)) _ _ (by omega) hlt (W.frame _ _ _ hst' fun b hbf o e => ?_) ⟨tv, rfl⟩ (Heap.get?_update_self _ hS' rfl) fun v' h'' tk'' hr hk'' => ?_⟩
      · exact (Heap.get?_update_other _ _ (fun h : S = b => hSf (by rw [h]; exact hbf))).trans e
      · exact hR v' h'' tk'' hr fun b o hbw hbS e => hk'' b o hbw hbS ((Heap.get?_update_other _ _ (Ne.symm hbS)).trans (hk' b o hbw e))
    | some m =>
      obtain ⟨t, rfl⟩ := hb
      have hcmp : CmpOf prog w A.in1 .Gt (fun i v => ∃ t, v = Value.int (if i = 0 then ns.getD j 0 else m) t) _ := CmpOf.ints_gt (fun i => if i = 0 then ns.getD j 0 else m) (fun _ _ h => h)
      show wpAny _ A.in1 (tryCatch (holding [_, _] (richCompare .Gt (.int (ns.getD j 0) tv) (.int m t) >>= _)) _ >>= _) _ _ _
      refine wpAny_bind (wpAny_tryCatch (wpAny_holding (wpAny_bind (hcmp 0 1 _ _ _ _ _ ⟨tv, rfl⟩ ⟨t, rfl⟩ ?_))))
      refine wpAny_bind (wpAny_holding (wpAny_truthy_bool ?_))
      refine wpAny_bind (wpAny_letGo (wpAny_pure ?_))
      by_cases hg : ns.getD j 0 > m
      · have hb : decide ((if (0 : Nat) = 0 then ns.getD j 0 else m) > (if (1 : Nat) = 0 then ns.getD j 0 else m)) = true := by simpa using hg
        rw [if_pos hb]
        refine wpAny_bind ?_
        refine wpAny_updateSeq hS' rfl (wpAny_bind (wpAny_letGo ?_))
        rw [hname]
        refine wpAny_pure ⟨plainId_quiet F.plain_max_loop _, ih (j + 1) _ (some (ns.getD j 0)) _ _ (by omega) hlt (W.frame _ _ _ hst' fun b hbf o e => ?_) ⟨tv, rfl⟩ (Heap.get?_update_self _ hS' rfl) fun v' h'' tk'' hr hk'' => ?_⟩
        · exact (Heap.get?_update_other _ _ (fun h : S = b => hSf (by rw [h]; exact hbf))).trans e
        · refine hR v' h'' tk'' ?_ fun b o hbw hbS e => hk'' b o hbw hbS ((Heap.get?_update_other _ _ (Ne.symm hbS)).trans (hk' b o hbw e))
          show Rs dv (bst (some (if ns.getD j 0 > m then ns.getD j 0 else m)) _) v'
          rw [if_pos hg]; exact hr
      · have hb : decide ((if (0 : Nat) = 0 then ns.getD j 0 else m) > (if (1 : Nat) = 0 then ns.getD j 0 else m)) = false := by simpa using hg
        rw [if_neg (fun q => absurd (hb.symm.trans q) (by decide))]
        refine wpAny_bind (wpAny_letGo ?_)
        rw [hname]
        refine wpAny_pure ⟨plainId_quiet F.plain_max_loop _, ih (j + 1) _ (some m) _ c (by omega) hlt hst' ⟨t, rfl⟩ hS' fun v' h'' tk'' hr hk'' => ?_⟩
        refine hR v' h'' tk'' ?_ fun b o hbw hbS e => hk'' b o hbw hbS (hk' b o hbw e)
        show Rs dv (bst (some (if ns.getD j 0 > m then ns.getD j 0 else m)) _) v'
        rw [if_neg hg]; exact hr
end

section
variable {prog : Program} {w : World} {A : Around} {E : Value → Shared → Prop} {s : Shared}

theorem args_maxD (a d : Value) : argsOk "max" ⟨[a], [(Str.ofString "default", d)]⟩ := by unfold argsOk; kernel_rfl
theorem call_maxD {l : Addr} {ps : List (Int × Tok)} {dv : Value} {Q : Value → Shared → Prop} (hh : A.handled = none) (hl : s.heap.IsList l (intItems ps.toArray))
    (h : ∀ v h' tk, Rs dv (bst none (ps.map (·.1))) v → (∀ b o, s.heap.get? b = some o → h'.get? b = some o) → Q v { s with heap := h', toks := tk }) :
    wpAny (model prog w) A (call (.builtin "max") [.ref l] [(Str.ofString "default", dv)]) Q E s := by
  have hname : (toString "max" ++ toString ".loop" : String) = "max.loop" := by decide
  have hbody : wpAny (model prog w) A.in1 (Builtin.«max» ⟨[.ref l], [(Str.ofString "default", dv)]⟩) (fun fin s' => match fin with
      | .done f => (match (Except.ok f : Result) with | .ok (.ret v) => Q v s' | .ok _ => False | .error e => E e s')
      | .again c' => c'.quiet = true ∧ codeAny (model prog w) A c' (fun r s' => match r with | .ok (.ret v) => Q v s' | .ok _ => False | .error e => E e s') s') E s := by
    show wpAny _ A.in1 (Builtin.Builtins.bindParams "max" ["key", "default"] 0 ⟨[], [(Str.ofString "default", dv)]⟩ >>= _) _ _ s
    refine wpAny_bind (wpAny_of_eq (show Builtin.Builtins.bindParams "max" ["key", "default"] 0 ⟨[], [(Str.ofString "default", dv)]⟩ = pure [none, some dv] from by kernel_rfl) ?_)
    refine wpAny_bind (wpAny_pure ?_)
    refine wpAny_bind (iter_intList hl fun s₂ e st hfp hlI => ?_)
    subst e
    refine wpAny_bind (wpAny_newObj_type ?_)
    rw [hname]
    have hsz : ∀ b ∈ [s.heap.objs.size, l], b < (s.heap.push { cls := .type "list_iterator", data := .fields #[.ref l, .int 0 0] }).objs.size := hfp
    have W := Walks.list (prog := prog) (w := w) (A := A.in1) hh s.heap.objs.size l hlI (intItems ps.toArray)
    have hSf : (s.heap.push { cls := .type "list_iterator", data := .fields #[.ref l, .int 0 0] }).objs.size ∉ [s.heap.objs.size, l] := fun hm => Nat.lt_irrefl _ (hsz _ hm)
    refine wpAny_pure ⟨plainId_quiet F.plain_max_loop _, max_go W (ps.map (·.1)) (by simp [intItems]) ?_ _ hSf _ dv _ 0 _ none #[] _ rfl (Nat.zero_le _) (W.frame _ _ _ st fun b _ o e => Heap.get?_push_of_some _ e) rfl (Heap.get?_push_size _ rfl) fun v h' tk hr hk => ?_⟩
    · intro i v hv
      obtain ⟨t, rfl⟩ := intItems_at hv
      refine ⟨t, ?_⟩
      congr 1
      simp [numAt, List.getD]
    · refine h v h' tk (by simpa using hr) ?_
      refine old_kept (s := s) (l := l) fun b o hb e => ?_
      exact hk b o hb (Nat.ne_of_lt (Heap.lt_size e)) (Heap.get?_push_of_some _ e)
  refine wpAny_call (codeAny_call_builtin F.plain_max F.entry_max ?_)
  simp only [checkBuiltinCall, F.kind_max]
  have ha := args_maxD (.ref l) dv
  cases hsig : Manifest.signature? "max" with
  | none => exact wpAny_pure hbody
  | some sig =>
    simp only [argsOk, hsig] at ha
    have h2 : Bind.checkArgs "max" sig ⟨[.ref l], [(Str.ofString "default", dv)]⟩ = pure () := ha
    show wpAny _ A.in1 (Bind.checkArgs "max" sig ⟨[.ref l], [(Str.ofString "default", dv)]⟩) _ _ s
    rw [h2]; exact wpAny_pure hbody
end

section
variable {G : PG} {d : Nat} {c : Sc} {A : Around} {env : Env} {lay : Nat → Option Place} {Sys : Addr → Prop} {base : Heap} {st : St} {s : Shared}

theorem se_maxd {a b : E} {y k : Str} {z u : Expr} {p pos kp : Pos} (F : Fx G d c A env lay Sys base st s) (hg : isGlob c y "max" = true) (hz : noStar z = true) (hk : k = Str.ofString "default") (ha : SE G d c a z) (hb : SE G d c b u) :
    Snd G.prog G.w G.mg A (NN st.H Sys) Sys s false (eval (.Call (.Name y p) [z] [⟨some k, u, kp⟩] pos) env) (WE (G.cx d) (.maxd a b) st) := by
  subst hk
  intro Q X K E hW hK hX
  rw [arm_eval_Call_Name']
  refine wpAny_bind (ld_bltn F hg (by decide) ?_)
  have he : backTo pos (starEach [z] env) = (false, eval z env) :: backTo pos (starEach [] env) := by rw [starEach_cons hz]; rfl
  show wpAny _ _ (callWith pos (.builtin "max") [] _ _) _ _ _
  refine PyProof.Rows.callWith_kw ?_ he (by rw [he]; rfl) rfl rfl
  rw [he]
  refine Calls.spliced_cons ((ha F).weak _ X _ E hW (fun v va s₁ q₁ r₁ k₁ _ => Calls.spliced_nil ?_) hX)
  have F₁ := F.keeps k₁
  refine PyProof.Rows.kws_cons ((hb F₁).weak _ X _ E q₁ (fun v' vd s₂ q₂ r₂ k₂ _ => PyProof.Rows.kws_nil ?_) fun e s' q => hX e s' (Rz.trans k₁ q))
  have F₂ := F₁.keeps k₂
  apply ints_val F₂.sim.objs q₂ (r₁.kz k₂.hw); intro l ps n hl q₂
  refine call_maxD (F.cold (isGlob_cold hg rfl)) (IsL.isList hl) fun v h' tk hr hk' => ?_
  have kk : Kp (FZ A Sys) s { s₂ with heap := h', toks := tk } := (k₁.trans k₂).trans (Kp.of hk')
  cases hps : ps.map (·.1) with
  | nil =>
    rw [hps] at hr q₂
    cases hr
    exact hK _ _ _ q₂ (r₂.keeps hk') kk nofun
  | cons i r =>
    rw [hps] at hr q₂
    have hr : Rs vd (bst (some i) r) v := hr
    rw [bst_some] at hr
    obtain ⟨t, rfl⟩ := hr
    exact hK _ _ _ q₂ (.int _ _) kk nofun
end

end Mine
end

section
set_option autoImplicit false
namespace Mine
open PySem

/-- only these places of the frame are turned -/
noncomputable def Tc (is : List Nat) (lay : Nat → Option Place) (h h' : Heap) : Prop := ∀ b o, (∀ i ∈ is, ∀ p, lay i = some p → b ≠ p.addr) → h.get? b = some o → h'.get? b = some o
theorem Tc.refl {is : List Nat} {lay : Nat → Option Place} (h : Heap) : Tc is lay h h := fun _ _ _ e => e
theorem Tc.trans {is : List Nat} {lay : Nat → Option Place} {a b c : Heap} (x : Tc is lay a b) (y : Tc is lay b c) : Tc is lay a c := fun p o n e => y p o n (x p o n e)
theorem Tc.ofHK {is : List Nat} {lay : Nat → Option Place} {a b : Heap} (x : HK a b) : Tc is lay a b := fun p o _ e => x p o e
theorem Tc.more {is js : List Nat} {lay : Nat → Option Place} {a b : Heap} (x : Tc is lay a b) (h : ∀ i ∈ is, i ∈ js) : Tc js lay a b := fun p o n e => x p o (fun i hi => n i (h i hi)) e
noncomputable def Tg.idx : Tg → List Nat
  | .var i => [i]
  | .tup is => is

section
variable {prog : Program} {w : World} {A : Around} {E : Value → Shared → Prop} {hsh : HFn} {T : Heap → Prop} {lay : Nat → Option Place} {Sys Z : Addr → Prop} {base : Heap} {st : St} {s : Shared} {env : Env} {c : Sc}

theorem chkN_eq {i : Nat} {tg : Expr} (h : chkN c i tg = true) : ∃ x pos, tg = .Name x pos ∧ c.σ.lookup x = some i ∧ (c.names.lookup x = some .local ∨ c.names.lookup x = some .cell) := by
  apply onName_elim h; clear h; intro x pos h
  simp only [Bool.and_eq_true, isVar, canStore, decide_eq_true_eq, Bool.or_eq_true] at h
  exact ⟨x, pos, rfl, h.1.1, h.2⟩

theorem RVs.tc {v : List V} {x : List Value} {h' : Heap} (S : Sim hsh T lay Sys Z base st s.heap) (r : RVs (NN st.H Sys) s.heap v x) {is : List Nat} (t : Tc is lay s.heap h') : RVs (NN st.H Sys) h' v x :=
  r.gen (fun _ q => .inl q) fun b o nb e => t b o (fun i _ p hp hb => nb (.inr (hb ▸ (S.sys i p hp).1))) e

theorem st_one {M : Model} {i : Nat} {tg : Expr} {v : V} {val : Value} {Q : Unit → Shared → Prop} (O : EnvOk env c.names c.σ lay) (S : Sim hsh T lay Sys Z base st s.heap) (ht : chkN c i tg = true) (hi : i < st.ρ.length) (hr : RV (NN st.H Sys) s.heap v val)
    (hQ : ∀ h' tk, Sim hsh T lay Sys Z base { st with ρ := st.ρ.set i (some v) } h' → Tc [i] lay s.heap h' → Q () { s with heap := h', toks := tk }) : wpAny M A (assign tg env val) Q E s := by
  obtain ⟨x, pos, rfl, h1, h2⟩ := chkN_eq ht
  refine wpAny_assign_Name (st_var O S h1 hi (fun e => ?_) hr fun h' t p hp hs hsim => hQ h' t hsim fun b o nb e => (hs.2 b (nb i (by simp) p hp)).trans e)
  rcases h2 with h2 | h2
  · rw [O.lc x h2] at e; cases e
  · rw [O.ce x h2] at e; cases e

theorem chkNs_each {M : Model} {Q : Unit → Shared → Prop} : ∀ (is : List Nat) (xs : List Expr) (vs : List V) (vals : List Value) (st : St) (ρ' : List (Option V)) (s : Shared), EnvOk env c.names c.σ lay → Sim hsh T lay Sys Z base st s.heap → chkNs c is xs = true → setAll is vs st.ρ = some ρ' →
    RVs (NN st.H Sys) s.heap vs vals → (∀ h' tk, Sim hsh T lay Sys Z base { st with ρ := ρ' } h' → Tc is lay s.heap h' → Q () { s with heap := h', toks := tk }) → wpAny M A (assignInOrder ((assignEach xs env).map (·.2)) vals) Q E s
  | [], xs, vs, vals, st, ρ', s, O, S, hc, hs, hr, hQ => by
    cases xs with
    | cons => simp [chkNs] at hc
    | nil =>
      cases vs with
      | cons => simp [sa_nil, sa_cons, sa_l, sa_r] at hs
      | nil =>
        simp [sa_nil, sa_cons, sa_l, sa_r] at hs; subst hs
        exact wpAny_pure (hQ s.heap s.toks S (Tc.refl _))
  | i :: is, xs, vs, vals, st, ρ', s, O, S, hc, hs, hr, hQ => by
    cases xs with
    | nil => simp [chkNs] at hc
    | cons x xs =>
      simp only [chkNs, Bool.and_eq_true] at hc
      cases vs with
      | nil => simp [sa_nil, sa_cons, sa_l, sa_r] at hs
      | cons v vs =>
        simp only [sa_nil, sa_cons, sa_l, sa_r] at hs
        split at hs
        · rename_i hi
          cases hr with
          | cons r1 r2 =>
            obtain ⟨y, pos, rfl, _⟩ := chkN_eq hc.1
            show wpAny M A (do holding _ (assign (.Name y pos) env _); assignInOrder ((assignEach xs env).map (·.2)) _) Q E s
            refine wpAny_bind (wpAny_holding (st_one O S hc.1 hi r1 fun h' tk S' tc => ?_))
            exact chkNs_each is xs vs _ _ ρ' { s with heap := h', toks := tk } O S' hc.2 hs (RVs.tc (st := st) (s := s) S r2 tc) fun h'' tk' S'' tc' => hQ h'' tk' S'' ((tc.more (by simp)).trans (tc'.more (by intro j hj; simp [hj])))
        · cases hs

theorem chkNs_len : ∀ (is : List Nat) (xs : List Expr), chkNs c is xs = true → (assignEach xs env).length = is.length ∧ (assignEach xs env).findIdx? (·.1) = none
  | [], [], _ => ⟨rfl, rfl⟩
  | [], _ :: _, h => by simp [chkNs] at h
  | _ :: _, [], h => by simp [chkNs] at h
  | i :: is, x :: xs, h => by
    simp only [chkNs, Bool.and_eq_true] at h
    obtain ⟨y, pos, rfl, _⟩ := chkN_eq h.1
    obtain ⟨h1, h2⟩ := chkNs_len is xs h.2
    have e : assignEach (.Name y pos :: xs) env = (false, assign (.Name y pos) env) :: assignEach xs env := rfl
    rw [e]
    refine ⟨by simp [h1], ?_⟩
    rw [List.findIdx?_cons, h2]; rfl
theorem setAll_len : ∀ {is : List Nat} {vs : List V} {ρ ρ' : List (Option V)}, setAll is vs ρ = some ρ' → is.length = vs.length ∧ ρ'.length = ρ.length
  | [], [], _, _, h => by simp [sa_nil, sa_cons, sa_l, sa_r] at h; subst h; exact ⟨rfl, rfl⟩
  | [], _ :: _, _, _, h => by simp [sa_nil, sa_cons, sa_l, sa_r] at h
  | _ :: _, [], _, _, h => by simp [sa_nil, sa_cons, sa_l, sa_r] at h
  | i :: is, v :: vs, ρ, ρ', h => by
    simp only [sa_nil, sa_cons, sa_l, sa_r] at h
    split at h
    · have := setAll_len h; simp at this ⊢; exact this
    · cases h
theorem bindT_len {t : Tg} {v : V} {ρ ρ' : List (Option V)} (h : bindT t v ρ = some ρ') : ρ'.length = ρ.length := by
  unfold bindT at h
  split at h
  · unfold putV at h
    split at h
    · cases h; simp
    · cases h
  · exact (setAll_len h).2
  · cases h

theorem st_tg {t : Tg} {tg : Expr} {v : V} {val : Value} {ρ' : List (Option V)} {Q : Unit → Shared → Prop} (hh : c.hot = false → A.handled = none) (O : EnvOk env c.names c.σ lay) (S : Sim hsh T lay Sys Z base st s.heap) (ht : chkTg c t tg = true) (hb : bindT t v st.ρ = some ρ')
    (hr : RV (NN st.H Sys) s.heap v val) (hQ : ∀ h' tk, Sim hsh T lay Sys Z base { st with ρ := ρ' } h' → Tc t.idx lay s.heap h' → Q () { s with heap := h', toks := tk }) : wpAny (model prog w) A (assign tg env val) Q E s := by
  cases t with
  | var i =>
    simp only [bd_var, bd_tup, bd_none, bd_bool, bd_int, bd_str, bd_lst, bd_ref, bd_inst, bd_iref, bd_exc, bd_dct] at hb
    split at hb
    · rename_i hi
      cases hb
      exact st_one O S ht hi hr hQ
    · cases hb
  | tup is =>
    apply onTup_elim ht; clear ht; intro xs k pos ht
    · simp only [Bool.and_eq_true, Bool.not_eq_true'] at ht
      have hh := hh ht.2
      have ht := ht.1.1
      cases hr with
      | tup h1 h2 h3 h4 =>
        rename_i ad ys n vs
        simp only [bd_var, bd_tup, bd_none, bd_bool, bd_int, bd_str, bd_lst, bd_ref, bd_inst, bd_iref, bd_exc, bd_dct] at hb
        obtain ⟨l1, l2⟩ := chkNs_len (env := env) is xs ht
        have l3 := (setAll_len hb).1
        have l4 := h4.size
        refine wpAny_assign_Tuple hh (IsT.isTuple h2) (by omega) l2 fun h' he => ?_
        have hk : HK s.heap h' := fun b o e => he b o (Nat.ne_of_lt (Heap.lt_size e)) e
        exact chkNs_each is xs vs _ st ρ' { s with heap := h' } O (S.keeps hk) ht hb (h4.keeps hk) fun h'' tk S' tc => hQ h'' tk S' ((Tc.ofHK hk).trans tc)
      | _ => simp [bd_var, bd_tup, bd_none, bd_bool, bd_int, bd_str, bd_lst, bd_ref, bd_inst, bd_iref, bd_exc, bd_dct] at hb
end

/-- an inner frame: more things off limits -/
theorem Sim.enter {hsh : HFn} {T : Heap → Prop} {lay : Nat → Option Place} {Sys Z New : Addr → Prop} {base : Heap} {st : St} {h h' : Heap} (S : Sim hsh T lay Sys Z base st h) (k : HW Z h h') (hn : ∀ b, New b → h.get? b = none) (hn' : ∀ b, New b → h'.get? b ≠ none) :
    Sim hsh T lay (fun a => Sys a ∨ New a) Z base st h' where
  keep := S.keep.trans k
  zs := fun b q => .inl (S.zs b q)
  top := let ⟨b0, t, k0, n⟩ := S.top; ⟨b0, t, k0, fun a q => q.elim (fun q => q.elim (fun q => n a (.inl q)) fun q => (HW.of (Z := Sys) k0).ext (S.keep.ext (hn a q))) fun q => n a (.inr q)⟩
  vals := fun i v p a b => by
    obtain ⟨val, x, y⟩ := S.vals i v p a b
    refine ⟨val, x.kz k, y.gen (fun b q => ?_) fun b o nb e => (k b o e).1 fun q => nb (.inr (S.zs b q))⟩
    rcases q with q | q | q
    · exact .inl (.inl q)
    · exact .inl (.inr q)
    · exact .inr (hn b q)
  ok := fun i p a => (S.ok i p a).kz k
  inj := S.inj
  sys := fun i p a => ⟨.inl (S.sys i p a).1, (S.sys i p a).2⟩
  objs := fun a o e => (S.objs a o e).gen (fun b q => by
    rcases q with q | q | q
    · exact .inl (.inl q)
    · exact .inl (.inr q)
    · exact .inr (hn b q)) (fun b o nb e => (k b o e).1 fun q => nb (.inr (S.zs b q))) (fun o' e' => (k a o' e').1 fun q => by rw [S.dis a (S.zs a q)] at e; cases e)
  own := S.own
  live := fun a q e => by
    rcases q with q | q
    · exact S.live a q (k.ext e)
    · exact hn' a q e
  ent := S.ent
  dis := fun a q => q.elim (S.dis a) fun q => S.fresh (hn a q)

theorem nodup_inj {α : Type} {l : List α} (h : l.Nodup) {i j : Nat} (hi : i < l.length) (hj : j < l.length) (e : l[i] = l[j]) : i = j := by
  have h' := List.pairwise_iff_getElem.mp h
  rcases Nat.lt_trichotomy i j with h1 | h1 | h1
  · exact absurd e (h' i j hi hj h1)
  · exact h1
  · exact absurd e.symm (h' j i hj hi h1)

/-- the comprehension's own places -/
noncomputable def layC (used : Nat) (C : Addr) (xs : List Str) (lay : Nat → Option Place) : Nat → Option Place := fun i => if i < used then lay i else (xs[i - used]?).map (Place.loc C)

noncomputable def wipe (used : Nat) : List (Option V) → List (Option V) := fun ρ => ρ.take used ++ List.replicate (ρ.length - used) none
theorem wipe_length (u : Nat) (ρ : List (Option V)) : (wipe u ρ).length = ρ.length := by simp [wipe]; omega
theorem wipe_get {u i : Nat} {ρ : List (Option V)} {v : V} (h : (wipe u ρ)[i]? = some (some v)) : i < u ∧ ρ[i]? = some (some v) := by
  unfold wipe at h
  rw [List.getElem?_append] at h
  split at h
  · rename_i hi
    simp at hi
    rw [List.getElem?_take, if_pos (by omega)] at h
    exact ⟨by omega, h⟩
  · rw [List.getElem?_replicate] at h
    split at h <;> simp at h

theorem Sim.comp {hsh : HFn} {T : Heap → Prop} {lay : Nat → Option Place} {Sys Z : Addr → Prop} {base : Heap} {st : St} {h : Heap} {used : Nat} {C : Addr} {xs : List Str} {m : Str → Option Value} (S : Sim hsh T lay Sys Z base st h) (hus : ∀ i p, lay i = some p → i < used)
    (hC : Sys C) (hCl : ∀ i p, lay i = some p → p.addr ≠ C) (hb : base.get? C = none) (hH : st.H C = none) (hm : h.Ns C m) (hnd : xs.Nodup) : Sim hsh T (layC used C xs lay) Sys Z base { st with ρ := wipe used st.ρ } h where
  keep := S.keep
  zs := S.zs
  top := S.top
  vals := fun i v p a b => by
    obtain ⟨h1, h2⟩ := wipe_get a
    simp only [layC, if_pos h1] at b
    exact S.vals i v p h2 b
  ok := fun i p a => by
    simp only [layC] at a
    split at a
    · exact S.ok i p a
    · simp only [Option.map_eq_some_iff] at a
      obtain ⟨x, _, rfl⟩ := a
      exact ⟨m, hm⟩
  inj := fun i j p a b => by
    simp only [layC] at a b
    split at a <;> split at b
    · exact S.inj i j p a b
    · simp only [Option.map_eq_some_iff] at b
      obtain ⟨x, _, rfl⟩ := b
      exact absurd rfl (hCl i _ a)
    · simp only [Option.map_eq_some_iff] at a
      obtain ⟨x, _, rfl⟩ := a
      exact absurd rfl (hCl j _ b)
    · simp only [Option.map_eq_some_iff] at a b
      obtain ⟨x, ha, rfl⟩ := a
      obtain ⟨y, hb', e⟩ := b
      cases e
      obtain ⟨l1, e1⟩ := List.getElem?_eq_some_iff.mp ha
      obtain ⟨l2, e2⟩ := List.getElem?_eq_some_iff.mp hb'
      have : i - used = j - used := nodup_inj hnd l1 l2 (e1.trans e2.symm)
      omega
  sys := fun i p a => by
    simp only [layC] at a
    split at a
    · exact S.sys i p a
    · simp only [Option.map_eq_some_iff] at a
      obtain ⟨x, _, rfl⟩ := a
      exact ⟨hC, hb, hH⟩
  objs := S.objs
  own := S.own
  live := S.live
  ent := S.ent
  dis := S.dis

/-- forgetting what the comprehension's places hold -/
theorem Sim.forget {hsh : HFn} {T : Heap → Prop} {lay : Nat → Option Place} {Sys Z : Addr → Prop} {base : Heap} {st : St} {h : Heap} {ρ' : List (Option V)} (S : Sim hsh T lay Sys Z base st h) (hv : ∀ (i : Nat) (v : V) (p : Place), lay i = some p → ρ'[i]? = some (some v) → st.ρ[i]? = some (some v)) :
    Sim hsh T lay Sys Z base { st with ρ := ρ' } h where
  keep := S.keep
  zs := S.zs
  top := S.top
  vals := fun i v p a b => S.vals i v p (hv i v p b a) b
  ok := S.ok
  inj := S.inj
  sys := S.sys
  objs := S.objs
  own := S.own
  live := S.live
  ent := S.ent
  dis := S.dis

end Mine
end

section
set_option autoImplicit false
namespace Mine
open PySem

section
variable {prog : Program} {w : World} {A : Around} {E : Value → Shared → Prop} {R : Result → Shared → Prop} {s : Shared}

theorem compLoop_gen {elt target iter : Expr} {ifs : List Expr} {scope : Scope} {pos : Pos} {it acc : Value} {env : Env} (I : Nat → Shared → Prop)
    (turn : ∀ n s, I n s → wpAny (model prog w) A (pyNext it) (fun r s₁ => match r with
      | none => R (.ok .next) s₁
      | some v => wpAny (model prog w) A (letOwnedTupleGo target it v) (fun _ s₁' => wpAny (model prog w) A (assign target env v) (fun _ s₂ =>
          wpAny (model prog w) A (forIn ifs true fun c r => if r = true then do let ok ← isTrue c env (eval c env); pure (ForInStep.yield ok) else pure (ForInStep.yield r)) (fun ok s₃ =>
            if ok = true then wpAny (model prog w) A (eval elt env) (fun x s₄ =>
              wpAny (model prog w) A (call (.builtin "list.append") [acc, x]) (fun _ s₅ => ∃ m, m < n ∧ I m s₅) (notedBy (model prog w) A env fun e s' => R (.error e) s') s₄) (notedBy (model prog w) A env fun e s' => R (.error e) s') s₃
            else ∃ m, m < n ∧ I m s₃) (notedBy (model prog w) A env fun e s' => R (.error e) s') s₂) (notedBy (model prog w) A env fun e s' => R (.error e) s') s₁') (notedBy (model prog w) A env fun e s' => R (.error e) s') s₁) (notedBy (model prog w) A env fun e s' => R (.error e) s') s)
    (n : Nat) (h : I n s) : codeAny (model prog w) A (.compLoop (.ListComp elt [⟨target, iter, ifs, 0⟩] scope pos) 0 it acc env) R s := by
  refine codeAny_loop rfl I (fun n s hI => ?_) n h
  show wpAny _ A ((compTurn (.ListComp elt [⟨target, iter, ifs, 0⟩] scope pos) 0 it acc env).onRaise (fun x => do noteFrame x env; theTreesLotGoes x)) _ _ s
  refine wpAny_noted ?_
  rw [compTurn_list]
  refine wpAny_bind (wpAny_standAt (wpAny_bind (wpAny_mono (turn n s hI) (fun r s₁ h₁ => ?_) fun _ _ h' => h')))
  cases r with
  | none => exact wpAny_pure h₁
  | some v =>
    refine wpAny_bind (wpAny_mono h₁ (fun _ s₁' h₁' => ?_) fun _ _ h' => h')
    refine wpAny_bind (wpAny_mono h₁' (fun _ s₂ h₂ => wpAny_bind (wpAny_mono h₂ (fun ok s₃ h₃ => ?_) fun _ _ h' => h')) fun _ _ h' => h')
    cases ok with
    | false => exact wpAny_pure ⟨rfl, h₃⟩
    | true =>
      exact wpAny_bind (wpAny_bind (wpAny_mono h₃ (fun x s₄ h₄ => wpAny_bind (wpAny_mono h₄ (fun _ s₅ h₅ => wpAny_pure (wpAny_pure ⟨rfl, h₅⟩)) fun _ _ h' => h')) fun _ _ h' => h'))

theorem append_call {l : Addr} {items : Array Value} {n : Nat} {v : Value} {Q : Value → Shared → Prop} (hl : IsL s.heap l items n) (hz : items.size ≤ sizeLine)
    (h : Q .none { s with heap := s.heap.update l (Obj.mapSeq fun xs => xs.push v) }) : wpAny (model prog w) A (call (.builtin "list.append") [.ref l, v]) Q E s :=
  call_meets F.slot_list_append ⟨_, hl, rfl⟩ F.entry_list_append (F.args_list_append_2 _ _) (list_append l items n v hz) ⟨hl, h⟩
end

/-- what a comprehension's free names stand in -/
theorem closure_ok {scope : Scope} {env : Env} (h : ∀ p ∈ scope.names, p.2 = .free → ∃ a, env.cells.lookup p.1 = some a) :
    ∃ cl, closureFor scope env = pure cl ∧ ∀ p ∈ scope.names, p.2 = .free → ∃ a, cl.lookup p.1 = some a ∧ env.cells.lookup p.1 = some a := by
  have key : ∀ (names : List (Str × NameKind)) (acc : List (Str × Addr)), (∀ p ∈ names, p.2 = .free → ∃ a, env.cells.lookup p.1 = some a) → (∀ x a, acc.lookup x = some a → env.cells.lookup x = some a) →
      ∃ cl, (forIn names acc (fun (p : Str × NameKind) cs => do
        if p.2 == .free then
          let a ← cellOf env p.1
          pure (ForInStep.yield ((p.1, a) :: cs))
        else pure (ForInStep.yield cs)) : Sem (List (Str × Addr))) = pure cl ∧ (∀ x a, cl.lookup x = some a → env.cells.lookup x = some a) ∧ (∀ x, (acc.lookup x).isSome → (cl.lookup x).isSome) ∧ (∀ p ∈ names, p.2 = .free → (cl.lookup p.1).isSome) := by
    intro names
    induction names with
    | nil => intro acc _ ha; exact ⟨acc, rfl, ha, fun _ e => e, by simp⟩
    | cons p r ih =>
      intro acc hf ha
      obtain ⟨n, k⟩ := p
      by_cases hk : k = .free
      · subst hk
        obtain ⟨a, hc⟩ := hf (n, .free) (by simp) rfl
        obtain ⟨cl, e, h1, h2, h3⟩ := ih ((n, a) :: acc) (fun q hq => hf q (List.mem_cons_of_mem _ hq)) (fun x b hx => by
          simp only [List.lookup_cons] at hx
          split at hx
          · rename_i hxn
            have : x = n := by simpa using hxn
            subst this; cases hx; exact hc
          · exact ha x b hx)
        refine ⟨cl, ?_, h1, fun x hx => h2 x ?_, fun q hq hqf => ?_⟩
        · rw [List.forIn_cons]
          simp only [beq_self_eq_true, if_true, cellOf, hc, pure_bind]
          exact e
        · simp only [List.lookup_cons]; split
          · rfl
          · exact hx
        · rcases List.mem_cons.mp hq with rfl | hq
          · exact h2 n (by simp)
          · exact h3 q hq hqf
      · obtain ⟨cl, e, h1, h2, h3⟩ := ih acc (fun q hq => hf q (List.mem_cons_of_mem _ hq)) ha
        refine ⟨cl, ?_, h1, h2, fun q hq hqf => ?_⟩
        · rw [List.forIn_cons]
          have : (k == NameKind.free) = false := by simpa using hk
          simp only [this, Bool.false_eq_true, if_false, pure_bind]
          exact e
        · rcases List.mem_cons.mp hq with rfl | hq
          · exact absurd hqf hk
          · exact h3 q hq hqf
  obtain ⟨cl, e, h1, _, h3⟩ := key scope.names [] h (by simp)
  refine ⟨cl, ?_, fun p hp hf => ?_⟩
  · simp only [closureFor]
    exact (congrArg (· >>= _) e).trans rfl
  · have := h3 p hp hf
    cases hc : cl.lookup p.1 with
    | none => rw [hc] at this; cases this
    | some a => exact ⟨a, rfl, h1 _ _ hc⟩

noncomputable def rl (env : Env) (p : Str × NameKind) : Str × NameKind := (p.1, if (p.2 == .free && env.scope.kind == .function && env.kindOf p.1 == some .cell) then .cell else p.2)
theorem relabel_names (scope : Scope) (env : Env) : (relabel scope env).names = scope.names.map (rl env) := by
  simp only [relabel]
  refine List.map_congr_left fun p _ => ?_
  obtain ⟨n, k⟩ := p
  simp only [rl]
  split <;> rfl
theorem lookup_rl {env : Env} : ∀ {names : List (Str × NameKind)} {x : Str} {k : NameKind}, names.lookup x = some k → ∃ n, (x == n) = true ∧ (names.map (rl env)).lookup x = some (rl env (n, k)).2
  | [], _, _, h => by simp at h
  | (n, k') :: r, x, k, h => by
    rw [List.map_cons]
    have e : rl env (n, k') = (n, (rl env (n, k')).2) := rfl
    rw [e]
    simp only [List.lookup_cons] at h ⊢
    cases hx : x == n with
    | true => rw [hx] at h; simp only at h ⊢; cases h; exact ⟨n, hx, rfl⟩
    | false => rw [hx] at h; simp only at h ⊢; exact lookup_rl h
theorem lookup_relabel {scope : Scope} {env : Env} {x : Str} {k : NameKind} (h : scope.names.lookup x = some k) (hk : k ≠ .free) : (relabel scope env).names.lookup x = some k := by
  rw [relabel_names]
  obtain ⟨n, _, e⟩ := lookup_rl (env := env) h
  rw [e]
  have : (k == NameKind.free) = false := by simpa using hk
  simp [rl, this]
theorem lookup_relabel_free {scope : Scope} {env : Env} {x : Str} (h : scope.names.lookup x = some .free) : (relabel scope env).names.lookup x = some .cell ∨ (relabel scope env).names.lookup x = some .free := by
  rw [relabel_names]
  obtain ⟨n, _, e⟩ := lookup_rl (env := env) h
  rw [e]
  simp only [rl]
  split
  · exact .inl rfl
  · exact .inr rfl

end Mine
end

section
set_option autoImplicit false
namespace Mine
open PySem

theorem mem_lookup {β : Type} : ∀ {l : List (Str × β)} {x : Str} {k : β}, l.lookup x = some k → (x, k) ∈ l
  | [], _, _, h => by simp at h
  | (n, k') :: r, x, k, h => by
    simp only [List.lookup_cons] at h
    cases hx : x == n with
    | true =>
      rw [hx] at h; simp only at h; cases h
      have : x = n := by simpa using hx
      subst this; simp
    | false => rw [hx] at h; simp only at h; exact List.mem_cons_of_mem _ (mem_lookup h)

theorem lookup_zip : ∀ {xs : List Str} {u : Nat} {x : Str} {i : Nat}, (xs.zip (List.range' u xs.length)).lookup x = some i → ∃ j, xs[j]? = some x ∧ i = u + j
  | [], _, _, _, h => by simp at h
  | y :: ys, u, x, i, h => by
    simp only [List.length_cons, List.range'_succ, List.zip_cons_cons, List.lookup_cons] at h
    cases hx : x == y with
    | true =>
      rw [hx] at h; simp only at h; cases h
      have : x = y := by simpa using hx
      subst this; exact ⟨0, rfl, rfl⟩
    | false =>
      rw [hx] at h; simp only at h
      obtain ⟨j, h1, h2⟩ := lookup_zip h
      exact ⟨j + 1, by simpa using h1, by omega⟩
theorem lookup_filter {q : Str → Bool} : ∀ {l : List (Str × Nat)} {x : Str} {i : Nat}, (l.filter fun p => q p.1).lookup x = some i → q x = true ∧ l.lookup x = some i
  | [], _, _, h => by simp at h
  | (n, k) :: r, x, i, h => by
    rw [List.filter_cons] at h
    split at h
    · rename_i hq
      simp only [List.lookup_cons] at h ⊢
      cases hx : x == n with
      | true =>
        rw [hx] at h; simp only at h ⊢
        have : x = n := by simpa using hx
        subst this; exact ⟨hq, h⟩
      | false => rw [hx] at h; simp only at h ⊢; exact lookup_filter h
    · rename_i hq
      obtain ⟨h1, h2⟩ := lookup_filter h
      refine ⟨h1, ?_⟩
      simp only [List.lookup_cons]
      cases hx : x == n with
      | true =>
        have : x = n := by simpa using hx
        subst this; exact absurd h1 hq
      | false => exact h2

structure TableOk (c : Sc) (xs : List Str) (sc : Scope) : Prop where
  kind : sc.kind = .function
  loc : ∀ x ∈ xs, sc.names.lookup x = some .local
  nd : xs.Nodup
  names : ∀ p ∈ sc.names, (p.2 = .local) ∨ (p.2 = .free ∧ sc.names.lookup p.1 = some .free ∧ (∃ i, c.σ.lookup p.1 = some i) ∧ (c.names.lookup p.1 = some .cell ∨ c.names.lookup p.1 = some .free) ∧ (p.1 == ("__classdict__" : Str)) = false) ∨ p.2 = .globalImplicit
  nodup : (sc.names.map (·.1)).Nodup
  dead : c.dead = false
theorem tableOk_eq {c : Sc} {xs : List Str} {sc : Scope} (h : tableOk c xs sc = true) : TableOk c xs sc := by
  unfold tableOk at h
  simp only [Bool.and_eq_true, decide_eq_true_eq, List.all_eq_true] at h
  obtain ⟨⟨⟨⟨⟨h1, h2⟩, h3⟩, h4⟩, h5⟩, h6⟩ := h
  refine ⟨h1, fun x hx => (h2 x hx).1, h3, fun p hp => ?_, h5, by simpa using h6⟩
  have := h4 p hp
  split at this
  · rename_i e; exact .inl e
  · rename_i e
    simp only [Bool.and_eq_true, Bool.or_eq_true, decide_eq_true_eq, Bool.not_eq_true'] at this
    exact .inr (.inl ⟨e, this.1.1.1, Option.isSome_iff_exists.mp this.1.1.2, this.1.2, this.2⟩)
  · rename_i e; exact .inr (.inr e)
  · cases this
theorem nodup_lookup {β : Type} : ∀ {l : List (Str × β)} {p : Str × β}, (l.map (·.1)).Nodup → p ∈ l → l.lookup p.1 = some p.2
  | [], _, _, h => by simp at h
  | (n, k) :: r, p, hn, h => by
    simp only [List.map_cons, List.nodup_cons] at hn
    rcases List.mem_cons.mp h with rfl | h
    · simp
    · simp only [List.lookup_cons]
      cases hx : p.1 == n with
      | true =>
        have : p.1 = n := by simpa using hx
        exact absurd (this ▸ List.mem_map.mpr ⟨p, h, rfl⟩) hn.1
      | false => exact nodup_lookup hn.2 h

theorem env_comp {env : Env} {c : Sc} {lay : Nat → Option Place} {xs : List Str} {sc : Scope} {cl : List (Str × Addr)} {C : Addr} (O : EnvOk env c.names c.σ lay) (hus : ∀ i p, lay i = some p → i < c.used) (ht : TableOk c xs sc)
    (hcl : ∀ p ∈ sc.names, p.2 = .free → ∃ a, cl.lookup p.1 = some a ∧ env.cells.lookup p.1 = some a) : EnvOk (compEnvC sc cl C env) (inner c xs sc.names).names (inner c xs sc.names).σ (layC c.used C xs lay) where
  kind := ht.kind
  glob := O.glob
  blt := O.blt
  gl := fun x h => lookup_relabel h (by simp)
  lc := fun x h => lookup_relabel h (by simp)
  ce := fun x h => lookup_relabel h (by simp)
  fr := fun x h => lookup_relabel_free h
  vars := fun x i h => by
    have h : ((xs.zip (List.range' c.used xs.length)) ++ c.σ.filter (fun p => decide (sc.names.lookup p.1 = some .free))).lookup x = some i := h
    rw [List.lookup_append] at h
    cases hz : (xs.zip (List.range' c.used xs.length)).lookup x with
    | some j =>
      rw [hz] at h; simp at h; subst h
      obtain ⟨k, hk, rfl⟩ := lookup_zip hz
      refine ⟨.loc C x, ?_, .inl ⟨lookup_relabel (ht.loc x (List.mem_of_getElem? hk)) (by simp), rfl⟩⟩
      unfold layC
      rw [if_neg (by omega), show c.used + k - c.used = k by omega, hk]; rfl
    | none =>
      rw [hz] at h; simp only [Option.none_or] at h
      obtain ⟨hq, hσ⟩ := lookup_filter (q := fun y => decide (sc.names.lookup y = some .free)) h
      have hq : sc.names.lookup x = some .free := by simpa using hq
      have hm := mem_lookup hq
      obtain ⟨a, h1, h2⟩ := hcl _ hm rfl
      have hk : (x == ("__classdict__" : Str)) = false ∧ (env.kindOf x = some .cell ∨ env.kindOf x = some .free) := by
        rcases ht.names _ hm with e | ⟨_, _, _, e, e'⟩ | e
        · cases e
        · exact ⟨e', e.elim (fun q => .inl (O.ce x q)) (O.fr x)⟩
        · cases e
      obtain ⟨p, hp, hc⟩ := O.vars x i hσ
      have hlt := hus i p hp
      rcases hc with ⟨hl, _⟩ | ⟨_, _, c', hc', rfl⟩
      · rcases hk.2 with q | q <;> rw [hl] at q <;> cases q
      · rw [h2] at hc'; cases hc'
        exact ⟨.cell a, by unfold layC; rw [if_pos hlt]; exact hp, .inr ⟨lookup_relabel_free hq, hk.1, a, h1, rfl⟩⟩

theorem bindT_agree {t : Tg} {u : Nat} {xs : List Str} {v : V} {ρ ρ₁ ρ' ρ₁' : List (Option V)} (ht : tgIs u t xs = true) (hl : ρ.length = ρ₁.length) (hag : ∀ i, i < u → ρ[i]? = ρ₁[i]?) (hb : bindT t v ρ = some ρ') (hb₁ : bindT t v ρ₁ = some ρ₁') :
    ∀ i, i < u + xs.length → ρ'[i]? = ρ₁'[i]? := by
  intro i hi
  cases t with
  | var iv =>
    obtain ⟨k1, k2⟩ := (Bool.and_eq_true _ _).mp ht
    rw [eq_of_beq k1] at hb hb₁
    rw [eq_of_beq k2] at hi
    simp only [bd_var, bd_tup, bd_none, bd_bool, bd_int, bd_str, bd_lst, bd_ref, bd_inst, bd_iref, bd_exc, bd_dct] at hb hb₁
    split at hb
    · rename_i h1
      rw [if_pos (by omega)] at hb₁
      cases hb; cases hb₁
      by_cases e : i = u
      · subst e; rw [List.getElem?_set_self h1, List.getElem?_set_self (by omega)]
      · rw [List.getElem?_set_ne (Ne.symm e), List.getElem?_set_ne (Ne.symm e)]; exact hag i (by omega)
    · cases hb
  | tup is => exact ff ht
theorem bindT_ok {t : Tg} {u : Nat} {xs : List Str} {v : V} {ρ ρ₁ ρ' : List (Option V)} (ht : tgIs u t xs = true) (hl : ρ.length = ρ₁.length) (hb : bindT t v ρ = some ρ') : ∃ ρ₁', bindT t v ρ₁ = some ρ₁' := by
  cases t with
  | var i =>
    simp only [bd_var, bd_tup, bd_none, bd_bool, bd_int, bd_str, bd_lst, bd_ref, bd_inst, bd_iref, bd_exc, bd_dct] at hb ⊢
    split at hb
    · rw [if_pos (by omega)]; exact ⟨_, rfl⟩
    · cases hb
  | tup is => exact ff ht
theorem wipe_lo {u i : Nat} {ρ : List (Option V)} (h : i < u) : (wipe u ρ)[i]? = ρ[i]? := by
  unfold wipe
  rcases Nat.lt_or_ge i ρ.length with hi | hi
  · rw [List.getElem?_append_left (by simp; omega), List.getElem?_take, if_pos h]
  · rw [List.getElem?_eq_none hi, List.getElem?_eq_none (by simp; omega)]

end Mine
end

section
set_option autoImplicit false
namespace Mine
open PySem

theorem lookup_zip_some {β : Type} : ∀ {names : List Str} {vals : List β} {x : Str}, names.length = vals.length → x ∈ names → ((names.zip vals).lookup x).isSome
  | [], _, _, _, h => by simp at h
  | _ :: _, [], _, hl, _ => by simp at hl
  | n :: ns, v :: vs, x, hl, h => by
    simp only [List.zip_cons_cons, List.lookup_cons]
    cases hx : x == n with
    | true => rfl
    | false =>
      have hne : x ≠ n := by simpa using hx
      exact lookup_zip_some (by simpa using hl) ((List.mem_cons.mp h).resolve_left hne)

theorem fm_zip {β : Type} : ∀ {names : List Str} {vals : List β}, names.length = vals.length → names.Nodup → names.filterMap (fun n => ((names.zip vals).lookup n).map (fun v => (n, v))) = names.zip vals := by
  have key : ∀ (names : List Str) (vals : List β) (full : List (Str × β)), names.length = vals.length → names.Nodup → (∀ n v, (n, v) ∈ names.zip vals → full.lookup n = some v) → names.filterMap (fun n => (full.lookup n).map (fun v => (n, v))) = names.zip vals := by
    intro names
    induction names with
    | nil => intro vals full hl _ _; rfl
    | cons n ns ih =>
      intro vals full hl hn hf
      cases vals with
      | nil => simp at hl
      | cons v vs =>
        rw [List.nodup_cons] at hn
        rw [List.filterMap_cons, hf n v (by simp)]
        simp only [Option.map_some, List.zip_cons_cons]
        rw [ih vs full (by simpa using hl) hn.2 fun m w hm => hf m w (by simp [hm])]
  intro names vals hl hn
  refine key names vals _ hl hn fun n v hm => ?_
  have hnz : ((names.zip vals).map (·.1)).Nodup := by
    have e : (names.zip vals).map (·.1) = names := by rw [List.map_fst_zip]; omega
    rw [e]; exact hn
  exact nodup_lookup hnz hm

theorem bp_key {nm qn : Str} {ar : List Arg} {kd : List (Option Expr)} {df : List Expr} {body : FuncBody} {sc : Scope} {gl : Addr} {cl : List (Str × Addr)} {kdv doc pm : Value} {an : Option Addr} {code ct : Value} {bl : Addr} {vals : List Value}
   (h1 : (decide (vals.length > (ar.map Arg.arg).length) && true) = false) (h2 : ((((ar.map Arg.arg).take ((ar.map Arg.arg).length)).filter fun n => (((ar.map Arg.arg).zip vals).lookup n).isNone).isEmpty) = true) :
   bindArgs ⟨nm, qn, ⟨[], ar, none, [], kd, none, df⟩, body, sc, gl, cl, .none, kdv, doc, pm, an, code, ct, bl⟩ ⟨vals, []⟩ = pure ((ar.map Arg.arg ++ []).filterMap fun n => (((ar.map Arg.arg).zip vals).lookup n).map (n, ·)) := by
  have hd : ([] : List Value).drop (0 - (ar.map Arg.arg).length) = [] := List.drop_nil
  have key : ∀ ds : List Value, ds = [] → ∀ a b : Sem (List (Str × Value)), (if (decide (vals.length > (ar.map Arg.arg).length) && true) = true then a else 
     if (!(((ar.map Arg.arg).take ((ar.map Arg.arg).length - ds.length)).filter fun n => (((ar.map Arg.arg).zip vals).lookup n).isNone).isEmpty) = true then b else
       (forIn (((ar.map Arg.arg).drop ((ar.map Arg.arg).length - ds.length)).zip ds) ((ar.map Arg.arg).zip vals) (fun (x : Str × Value) r => if (r.lookup x.1).isNone = true then pure (ForInStep.yield (r ++ [(x.1, x.2)])) else pure (ForInStep.yield r))) >>= fun slots => pure ((ar.map Arg.arg ++ []).filterMap fun n => (slots.lookup n).map (n, ·)))
       = pure ((ar.map Arg.arg ++ []).filterMap fun n => (((ar.map Arg.arg).zip vals).lookup n).map (n, ·)) := by
    rintro _ rfl a b
    rw [h1]
    show (if (!(((ar.map Arg.arg).take ((ar.map Arg.arg).length)).filter fun n => (((ar.map Arg.arg).zip vals).lookup n).isNone).isEmpty) = true then b else _) = _
    rw [h2, List.zip_nil_right]
    rfl
  exact key _ hd _ _

theorem bind_plain {fd : FuncData} {vals : List Value} {names : List Str} (hp : fd.params.posonlyargs = []) (ha : fd.params.args.map (·.arg) = names) (hk : fd.params.kwonlyargs = []) (hv : fd.params.vararg = none) (hkw : fd.params.kwarg = none) (hd : fd.defaults = .none)
    (hl : names.length = vals.length) (hn : names.Nodup) : bindArgs fd ⟨vals, []⟩ = pure (names.zip vals) := by
  have h1 : ¬ (vals.length > names.length) := by omega
  have h2 : names.filter (fun n => ((names.zip vals).lookup n).isNone) = [] := by
    rw [List.filter_eq_nil_iff]
    intro x hx
    have := lookup_zip_some hl hx
    cases e : (names.zip vals).lookup x with
    | none => rw [e] at this; cases this
    | some v => simp
  rcases fd with ⟨nm, qn, ⟨po, ar, va, ko, kd, kw, df⟩, body, sc, gl, cl, dv, kdv, doc, pm, an, code, ct, bl⟩
  dsimp only at hp ha hk hv hkw hd
  subst hp ha hk hv hkw hd
  rw [bp_key (by rw [decide_eq_false h1]; rfl) (by rw [List.take_length]; exact congrArg List.isEmpty h2), List.append_nil]
  exact congrArg pure (fm_zip hl hn)

end Mine
end

section
set_option autoImplicit false
namespace Mine
open PySem PyProof.Rows
/-! things of an own class: what its __init__ leaves -/
theorem lk_put {β : Type} {f : Str} {v : β} {y : Str} : ∀ {l : List (Str × β)}, f ∉ l.map (·.1) → (l ++ [(f, v)]).lookup y = if y = f then some v else l.lookup y := by
  intro l
  induction l with
  | nil =>
    intro _
    by_cases e : y = f
    · subst e; simp
    · simp [List.lookup_cons, e, beq_eq_false_iff_ne.mpr e]
  | cons p l ih =>
    obtain ⟨g, u⟩ := p
    intro h
    rw [List.map_cons, List.mem_cons, not_or] at h
    rw [List.cons_append, List.lookup_cons, List.lookup_cons, ih h.2]
    by_cases e : y = g
    · subst e
      rw [beq_self_eq_true]
      exact (if_neg (fun q => h.1 q.symm)).symm
    · rw [beq_eq_false_iff_ne.mpr e]
theorem lk_mem {β : Type} {y : Str} : ∀ {l : List (Str × β)}, l.lookup y ≠ none → y ∈ l.map (·.1) := by
  intro l
  induction l with
  | nil => intro h; exact absurd rfl h
  | cons p l ih =>
    obtain ⟨g, u⟩ := p
    intro h
    rw [List.lookup_cons] at h
    by_cases e : y = g
    · rw [e]; exact List.mem_cons_self ..
    · rw [beq_eq_false_iff_ne.mpr e] at h
      exact List.mem_cons_of_mem _ (ih h)
section
variable {prog : Program} {w : World} {A : Around} {E : Value → Shared → Prop}
theorem iv_run {env : Env} {m : Str → Option Value} {names : List Str} {xv : Value} {vals : List Value} {vs : List V} {N : Addr → Prop} {h₀ : Heap} {i : Ini} {y : Expr} {s : Shared} {Q : Value → Shared → Prop}
    (hk : env.scope.kind = .function) (hloc : ∀ y ∈ names, env.kindOf y = some .local ∧ (y == ("__debug__" : Str)) = false) (hL : s.heap.Ns env.locals m) (hm : ∀ (i : Nat) (y : Str), names[i]? = some y → m y = (xv :: vals)[i]?)
    (hn : names.length = vals.length + 1) (r : RVs N h₀ vs vals) (hc : chkIv names i y = true) (hQ : ∀ val tk, RV N h₀ (iniV vs i) val → Q val { s with toks := tk }) : wpAny (model prog w) A (eval y env) Q E s := by
  cases i with
  | arg i =>
    have q_ := onName_inv hc; clear hc; obtain ⟨z, p, rfl, hz⟩ := q_
    have hz := of_decide_eq_true hz
    have hl := hloc z (List.mem_of_getElem? hz)
    have e := hm _ _ hz
    have hi : i < vs.length := by
      have := (List.getElem?_eq_some_iff.mp hz).1
      rw [hn] at this
      rw [r.length]
      exact Nat.lt_of_succ_lt_succ this
    obtain ⟨val, hv, rv⟩ := r.get i (List.getElem?_eq_getElem hi)
    have e : m z = some val := e.trans hv
    refine wpAny_Name (wpAny_loadName_local hk hl.1 hL e ?_) hl.2
    refine hQ val s.toks ?_
    show RV N h₀ ((vs[i]?).getD .none) val
    rw [List.getElem?_eq_getElem hi]; exact rv
  | val v =>
    have q_ := onConst_inv hc; clear hc; obtain ⟨k, j, p, rfl, hz⟩ := q_
    cases v with
    | none => cases of_decide_eq_true hz; exact wpAny_Constant_none (hQ _ s.toks .none)
    | int i => cases of_decide_eq_true hz; exact wpAny_Constant_int (hQ _ _ (.int i _))
    | _ => exact ff hz
theorem chkIv_comp {names : List Str} {i : Ini} {y : Expr} (h : chkIv names i y = true) (t : Option Expr) (l : Nat) (env : Env) : swapsWith y t l env = pure false := by
  cases i with
  | arg i => obtain ⟨z, p, rfl, _⟩ := onName_inv h; rfl
  | val v => obtain ⟨k, j, p, rfl, _⟩ := onConst_inv h; rfl
theorem InsX.inst {h : Heap} {x a C : Addr} {m : Str → Option Value} (i : InsX h x a C) (n : h.Ns1 a m) : h.Inst x C m := by
  obtain ⟨o, h1, h2, h3, h4, h5⟩ := i
  exact ⟨o, h1, h2, h3, .inr ⟨a, h4, h5, n⟩⟩

theorem fs_run {env : Env} {m mN : Str → Option Value} {names : List Str} {self : Str} {x dx C N0 : Addr} {vals : List Value} {vs : List V} {N : Addr → Prop} {h₀ : Heap} {Q : Flow → Shared → Prop}
    (hk : env.scope.kind = .function) (hloc : ∀ y ∈ names, env.kindOf y = some .local ∧ (y == ("__debug__" : Str)) = false) (hm : ∀ (i : Nat) (y : Str), names[i]? = some y → m y = (Value.ref x :: vals)[i]?)
    (hn : names.length = vals.length + 1) (h0 : names[0]? = some self) (r : RVs N h₀ vs vals) (X : ClsAt h₀ C N0 mN) (hsa : mN "__setattr__" = none) (hx : h₀.get? x = none) (hd : h₀.get? dx = none) (hLx : env.locals ≠ x) (hLd : env.locals ≠ dx) :
    ∀ (fs : List (String × Ini)) (body : List Stmt) (l : List (Str × Value)) (s : Shared), chkFs self names fs body = true → (∀ f ∈ fs, mN (Str.ofString f.1) = none) → (∀ f ∈ fs, typeLookup (.type "object") (Str.ofString f.1) = pure none) →
      (l.map (·.1) ++ fs.map fun f => Str.ofString f.1).Nodup → l.length + fs.length ≤ 50 → HK h₀ s.heap → s.heap.Ns env.locals m → InsX s.heap x dx C → s.heap.Ns1 dx (fun y => l.lookup y) →
      (∀ ys h' tk, HK h₀ h' → InsX h' x dx C → h'.Ns1 dx (fun y => (l ++ ys).lookup y) → ys.map (·.1) = (fs.map fun f => Str.ofString f.1) → RVs N h₀ (fs.map fun f => iniV vs f.2) (ys.map (·.2)) → Q .next { s with heap := h', toks := tk }) →
      wpAny (model prog w) A (execs body env) Q E s := by
  intro fs
  induction fs with
  | nil =>
    intro body l s hc _ _ _ _ kk _ hi hn1 hQ
    cases body with
    | cons => exact ff hc
    | nil => exact wpAny_execs_nil (hQ [] s.heap s.toks kk hi (by rw [List.append_nil]; exact hn1) rfl .nil)
  | cons f fs ih =>
    intro body l s hc hq hB hnd hsz kk hL hi hn1 hQ
    cases body with
    | nil => exact ff hc
    | cons b body =>
      have q_ := (Bool.and_eq_true _ _).mp hc; clear hc; obtain ⟨h1, h2⟩ := q_
      have q_ := onAssign_inv h1; clear h1; obtain ⟨tg, y, p, rfl, h1⟩ := q_
      have q_ := onAttr_inv h1; clear h1; obtain ⟨o, a, ap, rfl, h1⟩ := q_
      have q_ := (Bool.and_eq_true _ _).mp h1; clear h1; obtain ⟨h1, hv⟩ := q_
      have q_ := (Bool.and_eq_true _ _).mp h1; clear h1; obtain ⟨h1, ha⟩ := q_
      cases of_decide_eq_true ha
      have q_ := onName_inv h1; clear h1; obtain ⟨z, zp, rfl, hz⟩ := q_
      cases of_decide_eq_true hz
      refine wpAny_execs_cons (plainObj_wpAny_Assign_Attribute ?_ (chkIv_comp hv _ _ _))
      refine iv_run hk hloc hL hm hn r hv fun val tk rv => ?_
      have hl := hloc self (List.mem_of_getElem? h0)
      refine wpAny_Name (wpAny_loadName_local hk hl.1 (s := { s with toks := tk }) hL (hm 0 _ h0) ?_) hl.2
      obtain ⟨nm, q, bs, sn, sub, col, dd, k0, k1, k2, k3, k5, hC⟩ := (X.keeps kk).obj
      obtain ⟨ox, g1, g2, g3, g4, g5⟩ := id hi
      have hxC : x ≠ C := by
        obtain ⟨_, _, _, _, _, _, _, _, _, _, _, _, e⟩ := X.obj
        rintro rfl; rw [hx] at e; cases e
      have hf : Str.ofString f.1 ∉ l.map (·.1) := fun hm => by
        rw [List.nodup_append] at hnd
        exact hnd.2.2 _ hm _ (List.mem_cons_self ..) rfl
      refine store_attr (ns := l.map (·.1)) PySem.F.store_object hC (X.keeps kk).ns hsa (hq f (List.mem_cons_self ..)) (hB f (List.mem_cons_self ..)) hxC (hi.inst hn1) (fun h' tk' I' hk' hsame => ?_) (fun y hy => lk_mem hy) (by rw [List.length_map, sizeLine_eq]; simp only [List.length_cons] at hsz; omega)
      have kk2 : ∀ b o, b ≠ x → b ≠ dx → s.heap.get? b = some o → h'.get? b = some o := fun b o n1 n2 e => hk' b o n1 (fun o₀ d' e₀ ed => by
        obtain rfl := Option.some.inj (g1.symm.trans e₀); obtain rfl := Option.some.inj (g4.symm.trans ed); exact n2) e
      have kk0 : HK h₀ h' := fun b o e => kk2 b o (by rintro rfl; rw [hx] at e; cases e) (by rintro rfl; rw [hd] at e; cases e) (kk b o e)
      obtain ⟨o₁, e₁, c₁, dt₁, _, dk₁⟩ := hsame ox g1
      have hi' : InsX h' x dx C := ⟨o₁, e₁, c₁.trans g2, fun c => by rw [dt₁]; exact g3 c, dk₁ dx g4, g5⟩
      have hn1' : h'.Ns1 dx (fun y => (l ++ [(Str.ofString f.1, val)]).lookup y) := by
        obtain ⟨o', e', _, _, hd'⟩ := I'
        obtain rfl := Option.some.inj (e₁.symm.trans e')
        rcases hd' with ⟨hn0, _⟩ | ⟨d', hd', _, hns'⟩
        · rw [dk₁ dx g4] at hn0; cases hn0
        · obtain rfl := Option.some.inj ((dk₁ dx g4).symm.trans hd')
          have e : (fun y => (l ++ [(Str.ofString f.1, val)]).lookup y) = fun y => if y = Str.ofString f.1 then some val else l.lookup y := funext fun y => lk_put hf
          rw [e]; exact hns'
      have hL' : h'.Ns env.locals m := by
        obtain ⟨oL, es, ep, eL, rL⟩ := hL
        exact ⟨oL, es, ep, kk2 _ _ hLx hLd eL, rL⟩
      refine ih body (l ++ [(Str.ofString f.1, val)]) { s with heap := h', toks := tk' } h2 (fun g hg => hq g (List.mem_cons_of_mem _ hg)) (fun g hg => hB g (List.mem_cons_of_mem _ hg)) (by rw [List.map_append, List.append_assoc]; exact hnd) (by rw [List.length_append]; simp only [List.length_cons, List.length_nil] at hsz ⊢; omega) kk0 hL' hi' hn1' fun ys h'' tk'' q1 q2 q3 q4 q5 => ?_
      exact hQ ((Str.ofString f.1, val) :: ys) h'' tk'' q1 q2 (by rw [← List.append_cons] at q3; exact q3) (by rw [List.map_cons, q4, List.map_cons]) (.cons rv q5)
/-- a thing is made -/
theorem new_call {C N0 : Addr} {mN : Str → Option Value} {n : Nat} {fs : List (String × Ini)} {vs : List V} {vals : List Value} {N : Addr → Prop} {s : Shared} {Q : Value → Shared → Prop}
    (R : CRow s.heap C N0 mN n fs) (hlim : s.heap.NoLimit) (hroom : A.depth + 1 < recursionLimit) (hl : vals.length = n) (r : RVs N s.heap vs vals)
    (hQ : ∀ x dx h' tk ys, HK s.heap h' → s.heap.get? x = none → s.heap.get? dx = none → x ≠ dx → InsX h' x dx C → NsOf h' dx (fs.map (·.1)) ys → RVs N s.heap (fs.map fun f => iniV vs f.2) ys → Q (.ref x) { s with heap := h', toks := tk }) :
    wpAny (model prog w) A (call (.ref C) vals) Q E s := by
  obtain ⟨hh, g, d, t, os⟩ := s
  obtain ⟨nm, q, bs, sn, sub, col, dd, k0, k1, k2, k3, k5, hC⟩ := R.cls.obj
  obtain ⟨fI, oI, pm, cdv, doc, qual, params, body, scope, h1, h2, h3, h4, h5, h6⟩ := R.ini
  unfold chkIni at h6
  have q_ := (Bool.and_eq_true _ _).mp h6; clear h6; obtain ⟨h6, hfs⟩ := q_
  simp only [plainParams, Bool.and_eq_true, decide_eq_true_eq, List.all_eq_true, Bool.not_eq_true', decide_eq_false_iff_not, List.isEmpty_iff, Option.isNone_iff_eq_none] at h6
  obtain ⟨⟨⟨⟨⟨⟨⟨⟨⟨⟨⟨⟨⟨⟨p1, p2⟩, p3⟩, p4⟩, p5⟩, p6⟩, hn⟩, hnd⟩, hloc⟩, hk⟩, hgen⟩, hco⟩, hcell⟩, hfd⟩, hf50⟩ := h6
  refine wpAny_call_obj_init PySem.F.objNew hC R.cls.ns h1 h2 h3 fun h' x dx Mk => ?_
  have hlen : (params.args.map (·.arg)).length = (Value.ref x :: vals).length := by rw [List.length_map, hn, List.length_cons, hl]
  refine wpAny_call (codeAny_call_def (fd := methDef "__init__" qual params body scope pm cdv doc) (body := body) (binds := (params.args.map (·.arg)).zip (.ref x :: vals)) hroom (Mk.keeps _ _ h2) h4 (hlim.keeps Mk.keeps) (h5.keeps Mk.keeps) rfl
    (.of_eq (bind_plain p1 rfl p3 p2 p4 rfl hlen hnd)) hcell (fun y hy => (hloc _ (List.of_mem_zip hy).1).1) (fun h₁ hns hk₁ => ?_) hco hgen hk)
  obtain ⟨ox, hx, hcx, hncx, hdx⟩ := Mk.inst
  have hdd := Mk.dict ox hx
  obtain ⟨hnsd, hne⟩ : (h'.Ns1 dx fun _ => none) ∧ dx ≠ x := by
    rcases hdx with ⟨hn0, _⟩ | ⟨d', hd', hne', hns'⟩
    · rw [hn0] at hdd; cases hdd
    · obtain rfl := Option.some.inj (hd'.symm.trans hdd); exact ⟨hns', hne'⟩
  obtain ⟨p0, ps, hps⟩ : ∃ p0 ps, params.args = p0 :: ps := by
    cases hps : params.args with
    | nil => rw [hps] at hn; cases hn
    | cons p0 ps => exact ⟨p0, ps, rfl⟩
  have hfs : chkFs p0.arg (params.args.map Arg.arg) fs body = true := by
    rw [hps] at hfs ⊢; exact hfs
  have hzn : (((params.args.map Arg.arg).zip (Value.ref x :: vals)).reverse.map (·.1)).Nodup := by
    rw [List.map_reverse, List.map_fst_zip (Nat.le_of_eq hlen)]
    exact (List.pairwise_reverse.mpr (hnd.imp Ne.symm))
  refine fs_run (names := params.args.map Arg.arg) (self := p0.arg) (x := x) (dx := dx) (C := C) (N0 := N0) (mN := mN) (m := fun y => ((params.args.map Arg.arg).zip (Value.ref x :: vals)).reverse.lookup y) (vals := vals) (vs := vs) (N := N) (h₀ := hh) (env := callEnv (methDef "__init__" qual params body scope pm cdv doc) h'.objs.size fI)
    hk (fun y hy => hloc y hy) (fun i y hy => ?_) (by rw [hlen]; rfl) (by rw [hps]; rfl) r R.cls R.sa Mk.newX Mk.newD (Ne.symm (Nat.ne_of_lt (Heap.lt_size hx))) (Ne.symm (Nat.ne_of_lt hnsd.lt)) fs body [] _ hfs (fun f hf => (R.qt f hf).1) (fun f hf => (R.qt f hf).2) hfd (by simpa using hf50)
    (fun b o e => hk₁ _ _ (Mk.keeps _ _ e)) hns ⟨ox, hk₁ _ _ hx, hcx, hncx, hdd, hne⟩ (hnsd.keeps hk₁) fun ys h'' tk q1 q2 q3 q4 q5 => ?_
  · have hi : i < (Value.ref x :: vals).length := by rw [← hlen]; exact (List.getElem?_eq_some_iff.mp hy).1
    have hv : (Value.ref x :: vals)[i]? = some (Value.ref x :: vals)[i] := List.getElem?_eq_getElem hi
    rw [hv]
    refine nodup_lookup hzn (p := (y, _)) (List.mem_reverse.mpr ?_)
    refine List.mem_of_getElem? (i := i) ?_
    rw [List.getElem?_zip_eq_some]
    exact ⟨hy, hv⟩
  · refine ⟨rfl, hQ x dx h'' tk (ys.map (·.2)) q1 Mk.newX Mk.newD (Ne.symm hne) q2 ⟨?_, ?_, ?_, ?_⟩ q5⟩
    · have := congrArg List.length q4
      simpa using this.symm
    · rw [List.map_map]; exact hfd
    · simpa using hf50
    · have e : (fs.map (·.1)).map Str.ofString = ys.map (·.1) := by rw [q4, List.map_map]; rfl
      rw [e, show (ys.map (·.1)).zip (ys.map (·.2)) = ys from by rw [List.zip_map', List.map_id'']; exact fun _ => rfl]
      exact q3
end
end Mine
end

section
set_option autoImplicit false
namespace Mine
open PySem PyProof.Rows
theorem memS {β : Type} {x : String} {v : β} : ∀ {l : List (String × β)}, l.lookup x = some v → (x, v) ∈ l := by
  intro l
  induction l with
  | nil => intro h; cases h
  | cons p l ih =>
    obtain ⟨y, u⟩ := p
    intro h
    rw [List.lookup_cons] at h
    by_cases e : x = y
    · rw [e, beq_self_eq_true] at h
      cases h; rw [e]; exact List.mem_cons_self ..
    · rw [beq_eq_false_iff_ne.mpr e] at h
      exact List.mem_cons_of_mem _ (ih h)
theorem attr_mem {n : String} {v : V} : ∀ {ns : List String} {vs : List V}, attrL n ns vs = some v → n ∈ ns := by
  intro ns
  induction ns with
  | nil => intro vs e; cases e
  | cons m ns ih =>
    intro vs e
    cases vs with
    | nil => cases e
    | cons u vs =>
      by_cases h : m = n
      · rw [h]; exact List.mem_cons_self ..
      · have e : (if m = n then some u else attrL n ns vs) = some v := e
        rw [if_neg h] at e
        exact List.mem_cons_of_mem _ (ih e)
theorem set_mem {n : String} {w : V} : ∀ {ns : List String} {vs vs' : List V}, setAttrL n w ns vs = some vs' → n ∈ ns := by
  intro ns
  induction ns with
  | nil => intro vs vs' e; cases e
  | cons m ns ih =>
    intro vs vs' e
    cases vs with
    | nil => cases e
    | cons u vs =>
      by_cases h : m = n
      · rw [h]; exact List.mem_cons_self ..
      · have e : (if m = n then some (w :: vs) else (setAttrL n w ns vs).map (u :: ·)) = some vs' := e
        rw [if_neg h] at e
        cases q : setAttrL n w ns vs with
        | none => rw [q] at e; cases e
        | some z => exact List.mem_cons_of_mem _ (ih q)
theorem attr_get {N : Addr → Prop} {h : Heap} {n : String} {v : V} : ∀ {ns : List String} {vs : List V} {xs : List Value}, attrL n ns vs = some v → RVs N h vs xs → (ns.map Str.ofString).Nodup → ∃ val, ((ns.map Str.ofString).zip xs).lookup (Str.ofString n) = some val ∧ RV N h v val := by
  intro ns
  induction ns with
  | nil => intro vs xs e; cases e
  | cons m ns ih =>
    intro vs xs e r hn
    cases r with
    | nil => cases e
    | cons r1 r2 =>
      rename_i u vs x xs
      have e : (if m = n then some u else attrL n ns vs) = some v := e
      rw [List.map_cons, List.nodup_cons] at hn
      rw [List.map_cons, List.zip_cons_cons, List.lookup_cons]
      by_cases hm : m = n
      · rw [if_pos hm] at e; cases e
        rw [hm, beq_self_eq_true]
        exact ⟨x, rfl, r1⟩
      · rw [if_neg hm] at e
        have hne : Str.ofString n ≠ Str.ofString m := fun q => hn.1 (q ▸ List.mem_map.mpr ⟨n, attr_mem e, rfl⟩)
        rw [beq_eq_false_iff_ne.mpr hne]
        exact ih e r2 hn.2
theorem attr_set {N : Addr → Prop} {h : Heap} {n : String} {w : V} {val : Value} (rw' : RV N h w val) : ∀ {ns : List String} {vs vs' : List V} {xs : List Value}, setAttrL n w ns vs = some vs' → RVs N h vs xs → (ns.map Str.ofString).Nodup →
    ∃ xs', RVs N h vs' xs' ∧ xs'.length = xs.length ∧ ∀ y, (if y = Str.ofString n then some val else ((ns.map Str.ofString).zip xs).lookup y) = ((ns.map Str.ofString).zip xs').lookup y := by
  intro ns
  induction ns with
  | nil => intro vs vs' xs e; cases e
  | cons m ns ih =>
    intro vs vs' xs e r hn
    cases r with
    | nil => cases e
    | cons r1 r2 =>
      rename_i u vs x xs
      have e : (if m = n then some (w :: vs) else (setAttrL n w ns vs).map (u :: ·)) = some vs' := e
      rw [List.map_cons, List.nodup_cons] at hn
      by_cases hm : m = n
      · rw [if_pos hm] at e; cases e
        refine ⟨val :: xs, .cons rw' r2, rfl, fun y => ?_⟩
        rw [List.map_cons, List.zip_cons_cons, List.zip_cons_cons, List.lookup_cons, List.lookup_cons, hm]
        by_cases hy : y = Str.ofString n
        · rw [if_pos hy, hy, beq_self_eq_true]
        · rw [if_neg hy, beq_eq_false_iff_ne.mpr hy]
      · rw [if_neg hm] at e
        cases q : setAttrL n w ns vs with
        | none => rw [q] at e; cases e
        | some z =>
          rw [q] at e; cases e
          have hne : Str.ofString n ≠ Str.ofString m := fun q' => hn.1 (q' ▸ List.mem_map.mpr ⟨n, set_mem q, rfl⟩)
          obtain ⟨xs', a1, a2, a3⟩ := ih q r2 hn.2
          refine ⟨x :: xs', .cons r1 a1, by rw [List.length_cons, a2, List.length_cons], fun y => ?_⟩
          rw [List.map_cons, List.zip_cons_cons, List.zip_cons_cons, List.lookup_cons, List.lookup_cons]
          by_cases hy : y = Str.ofString m
          · rw [hy, beq_self_eq_true, if_neg (fun q' => hne q'.symm)]
          · rw [beq_eq_false_iff_ne.mpr hy]
            exact a3 y
theorem RV.out {N : Addr → Prop} {h : Heap} {v : V} {x : Value} (r : RV N h v x) : handedOut x = pure x := by cases r <;> rfl
theorem hasC_row {G : PG} {d : Nat} {h : Heap} {c : Nat} {ns : List String} (T : TT G h) (e : (G.cx d).has c ns = true) : ∃ N0 mN n fs, CRow h c N0 mN n fs ∧ fs.map (·.1) = ns := by
  obtain ⟨r, hr, e⟩ := List.any_eq_true.mp e
  obtain ⟨e1, e2⟩ := (Bool.and_eq_true _ _).mp e
  obtain ⟨_, N0, mN, R⟩ := T.cl r hr
  cases of_decide_eq_true e1
  exact ⟨N0, mN, _, _, R, of_decide_eq_true e2⟩
theorem CRow.name {h : Heap} {C N0 : Addr} {mN : Str → Option Value} {k : Nat} {fs : List (String × Ini)} {ns : List String} {n : String} (R : CRow h C N0 mN k fs) (e : fs.map (·.1) = ns) (hn : n ∈ ns) : mN (Str.ofString n) = none ∧ typeLookup (.type "object") (Str.ofString n) = pure none := by
  rw [← e] at hn
  obtain ⟨f, hf, rfl⟩ := List.mem_map.mp hn
  exact R.qt f hf
section
variable {G : PG} {d : Nat} {c : Sc} {A : Around} {env : Env} {lay : Nat → Option Place} {Sys : Addr → Prop} {base : Heap} {st : St} {s : Shared}
theorem attr_eval {o : Expr} {n : Str} {pos : Pos} (h : attrB o = true) : eval (.Attribute o n pos) env = (do
      let v ← eval o env
      standAt pos.atName
      let r ← holding [v] (getAttr v n true)
      letTemporaryGo o v r
      pure r) := by
  cases o with
  | Name => rfl
  | Call f xs ks p =>
    obtain ⟨z, r, rfl⟩ := some1_inv h
    cases f <;> rfl
  | _ => exact ff h
theorem attr_load {N : Addr → Prop} {E : Value → Shared → Prop} {x a C : Addr} {ns : List String} {vs : List V} {xs : List Value} {n : String} {v : V} {K : Value → Shared → Prop} (T : TT G s.heap) (hh : (G.cx d).has C ns = true) (i : InsX s.heap x a C) (o : NsOf s.heap a ns xs) (r : RVs N s.heap vs xs) (e : attrL n ns vs = some v)
    (hK : ∀ val tk, RV N s.heap v val → K val { s with toks := tk }) : wpAny (model G.prog G.w) A (getAttr (.ref x) (Str.ofString n) true) K E s := by
  obtain ⟨N0, mN, k, fs, R, hns⟩ := hasC_row T hh
  obtain ⟨q1, q2⟩ := R.name hns (attr_mem e)
  obtain ⟨val, hl, rv⟩ := attr_get e r o.2.1
  obtain ⟨nm, q, bs, sn, sub, col, dd, k0, k1, k2, k3, k5, hC⟩ := R.cls.obj
  exact load_attr hC R.cls.ns R.ga q1 q2 (i.inst o.2.2.2) hl rv.out (hK val _ rv)
theorem se_attr {a : E} {n : String} {o : Expr} {pos : Pos} (F : Fx G d c A env lay Sys base st s) (ha : SE G d c a o) (hb : attrB o = true) : Snd G.prog G.w G.mg A (NN st.H Sys) Sys s false (eval (.Attribute o (Str.ofString n) pos) env) (WE (G.cx d) (.attr a n) st) := by
  intro Q X K E hW hK hX
  simp only [we_0, we_1, we_2, we_3, we_4, we_5, we_6, we_7, we_8, we_9, we_10, we_11, we_12, we_13, we_14, we_15, we_16, we_17, we_18, we_19, we_20, we_21, we_22, we_23, we_24, we_25, we_26, we_27, we_28, we_29, we_30, we_31, we_32, we_33, we_34, we_35, we_36, we_37] at hW
  refine Attribute_any_ ((ha F).weak _ X _ E hW (fun u va s₁ h₁ r₁ k₁ _ => ?_) hX) (attr_eval hb)
  have F₁ := F.keeps k₁
  split at h₁
  · obtain ⟨hh, h₁⟩ := h₁
    split at h₁
    · rename_i v hv
      cases r₁ with
      | inst n1 n2 i o r => exact attr_load F₁.top hh i o r hv fun val tk rv => hK _ _ _ h₁ rv (k₁.trans (Kp.tok _ tk)) nofun
    · exact h₁.elim
  · split at h₁
    · rename_i hH
      obtain ⟨hh, rfl, rfl, h₁⟩ := h₁
      split at h₁
      · rename_i v hv
        cases r₁ with
        | iref n1 i =>
          cases F₁.sim.objs _ _ hH with
          | inst o r => exact attr_load F₁.top hh i o r hv fun val tk rv => hK _ _ _ h₁ rv (k₁.trans (Kp.tok _ tk)) nofun
      · exact h₁.elim
    · exact h₁.elim
  · exact h₁.elim
theorem ev_new {cn : String} {k n : Nat} {fs : List (String × Ini)} {es : Es} {y : Str} {z : Expr} {xs : List Expr} {p pos : Pos} {Q : List V → Prop} {X : String → Prop} {K E : Value → Shared → Prop} (F : Fx G d c A env lay Sys base st s) (hg : isGlob c y cn = true) (h : SEs G d c es (z :: xs)) (hlk : G.ctab.lookup cn = some (k, n, fs))
    (hW : WEs (G.cx d) es st (fun vs => vs.length = n ∧ Q vs) X)
    (hK : ∀ vs x dx ys h₁ s', Q vs → Kp (FZ A Sys) s s' → s.heap.get? x = none → s.heap.get? dx = none → x ≠ dx → InsX s'.heap x dx k → NsOf s'.heap dx (fs.map (·.1)) ys → RVs (NN st.H Sys) h₁ (fs.map fun f => iniV vs f.2) ys → h₁.get? dx = none → HK h₁ s'.heap → K (.ref x) s') (hX : ∀ e s', Rz G.mg A Sys s X e s' → E e s') :
    wpAny (model G.prog G.w) A (eval (.Call (.Name y p) (z :: xs) [] pos) env) K E s := by
  obtain ⟨b0, T0, k0, n0⟩ := F.sim.topH
  obtain ⟨h1, N0, mN, R⟩ := T0.cl _ (memS hlk)
  have hs := h.1
  simp only [List.all_cons, Bool.and_eq_true] at hs
  rw [arm_eval_Call_Name']
  refine wpAny_bind (ld_glob F hg h1 ?_)
  have kk : ∀ {s₁ : Shared}, Kp (FZ A Sys) s s₁ → HK b0 s₁.heap := fun k₁ b o e => (k₁.hw b o (k0 b o e)).1 fun q => by rw [n0 b (.inr q.2)] at e; cases e
  refine callWith_cls (h₀ := b0) R.cls (h.2 F pos _ X _ E hW (fun vs vals s₁ q r k₁ => ⟨kk k₁, ?_⟩) hX) (starEach_cons hs.1) (star_plain pos env _ hs.2)
  have F₁ := F.keeps k₁
  have hd := F.rm.depth
  refine new_call (R.keeps (kk k₁)) F₁.top.nolimit (by omega) (by rw [← r.length]; exact q.1) r fun x dx h' tk ys q1 q2 q3 q4 q5 q6 q7 => ?_
  exact hK vs x dx ys _ _ q.2 (k₁.trans (Kp.of q1)) (fresh_keeps k₁ q2) (fresh_keeps k₁ q3) q4 q5 q6 q7 q3 q1
theorem se_new {cn : String} {es : Es} {y : Str} {z : Expr} {xs : List Expr} {p pos : Pos} (F : Fx G d c A env lay Sys base st s) (hg : isGlob c y cn = true) (h : SEs G d c es (z :: xs)) : Snd G.prog G.w G.mg A (NN st.H Sys) Sys s false (eval (.Call (.Name y p) (z :: xs) [] pos) env) (WE (G.cx d) (.new cn es) st) := by
  intro Q X K E hW hK hX
  simp only [we_0, we_1, we_2, we_3, we_4, we_5, we_6, we_7, we_8, we_9, we_10, we_11, we_12, we_13, we_14, we_15, we_16, we_17, we_18, we_19, we_20, we_21, we_22, we_23, we_24, we_25, we_26, we_27, we_28, we_29, we_30, we_31, we_32, we_33, we_34, we_35, we_36, we_37] at hW
  split at hW
  · rename_i k n fs hlk
    refine ev_new F hg h hlk hW (fun vs x dx ys h₁ s' q k₁ fx fd hne i o r _ kk => ?_) hX
    have nf : ∀ b, s.heap.get? b = none → ¬ NN st.H Sys b := fun b e q => q.elim (fun q => q (F.sim.fresh e)) fun q => F.sim.live b q e
    exact hK _ _ _ q (.inst (nf x fx) (nf dx fd) i o (r.keeps kk)) k₁ nofun
  · exact hW.elim
end
end Mine
end

section
set_option autoImplicit false
namespace Mine
open PySem

section
variable {G : PG} {d : Nat} {c : Sc} {A : Around} {env : Env} {lay : Nat → Option Place} {Sys : Addr → Prop} {base : Heap} {st : St} {s : Shared} {E : Value → Shared → Prop}

theorem tgIs_idx {u : Nat} {t : Tg} {xs : List Str} (h : tgIs u t xs = true) : ∀ j ∈ t.idx, u ≤ j := by
  cases t with
  | var i =>
    intro j hj
    rw [List.mem_singleton.mp hj, eq_of_beq ((Bool.and_eq_true _ _).mp h).1]
    exact Nat.le_refl _
  | tup is => exact ff h
theorem tgIs_ne {u : Nat} {t : Tg} (h : tgIs u t [] = true) : False := by
  cases t with
  | var i => exact ff ((Bool.and_eq_true _ _).mp h).2
  | tup is => exact ff h

/-- one turn of a comprehension -/
noncomputable abbrev CStep (G : PG) (d : Nat) (c : Sc) (A : Around) (st : St) (base : Heap) (xs : List Str) (sc : Scope) (t : Tg) (ifs : List Expr) (elt : Expr) (f : V → (Option V → Prop) → Prop) : Prop :=
  ∀ (x : V) (k : Option V → Prop), f x k → ∃ ρ', bindT t x st.ρ = some ρ' ∧ ∀ {cenv : Env} {lay' : Nat → Option Place} {Sys' : Addr → Prop} {s' : Shared}, Fx G d (inner c xs sc.names) A cenv lay' Sys' base { st with ρ := ρ' } s' →
    ∀ (K : Option Value → Shared → Prop) (E' : Value → Shared → Prop), (∀ y val s'', k (some y) → RV (NN st.H Sys') s''.heap y val → Kp (FZ A Sys') s' s'' → K (some val) s'') → (∀ s'', k none → Kp (FZ A Sys') s' s'' → K none s'') →
      wpAny (model G.prog G.w) A (forIn ifs true fun c r => if r = true then do let ok ← isTrue c cenv (eval c cenv); pure (ForInStep.yield ok) else pure (ForInStep.yield r))
        (fun ok s₃ => if ok = true then wpAny (model G.prog G.w) A (eval elt cenv) (fun v s₄ => K (some v) s₄) E' s₃ else K none s₃) E' s'

/-- ahead of each turn of a comprehension -/
inductive InvC (A : Around) (Sys N : Addr → Prop) (vs : List V) (wr : List Addr) (Si : Nat → Heap → Prop) (s₂ : Shared) (D C : Addr) (f : V → (Option V → Prop) → Prop) (QQ : List V → Prop) (n : Nat) (s' : Shared) : Prop
  | mk (i acc ys nn m h tk) : n = vs.length - i → i ≤ vs.length → s' = { s₂ with heap := h, toks := tk } → (∀ b o, b ∉ wr → s₂.heap.get? b = some o → (¬ FZ A Sys b → h.get? b = some o) ∧ ∃ sl, h.get? b = some { o with slots := sl }) → Si i h → IsL h D ys nn → h.Ns C m →
    RVs N h acc ys.toList → ys.size ≤ i → compL f (vs.drop i) (fun rest => QQ (acc ++ rest)) → InvC A Sys N vs wr Si s₂ D C f QQ n s'
theorem comp_block {f : V → (Option V → Prop) → Prop} {t : Tg} {tg iter elt : Expr} {ifs : List Expr} {sc : Scope} {pos : Pos} {xs : List Str} {vs : List V} {ds : List Nat} {I : Addr} {cl : List (Str × Addr)} {s₂ : Shared} {nw : Bool} {QQ : List V → Prop} {RR : Value → Addr → Result → Shared → Prop}
    (F : Fx G d c A env lay Sys base st s) (k : Kp (FZ A Sys) s s₂) (io : ItOk G A st.H Sys s s₂ vs ds I nw) (hez : nw = true → isTupX tg = true) (hz : vs.length ≤ sizeLine) (ht : TableOk c xs sc) (hti : tgIs c.used t xs = true) (htg : chkTg (inner c xs sc.names) t tg = true)
    (hcl : ∀ p ∈ sc.names, p.2 = .free → ∃ a, cl.lookup p.1 = some a ∧ env.cells.lookup p.1 = some a) (hstep : CStep G d c A st base xs sc t ifs elt f) (hc : compL f vs QQ)
    (hRR : ∀ D C h' tk m' ys zs nn, QQ ys → s.heap.get? D = none → s.heap.get? C = none → D ≠ C → h'.Ns C m' → IsL h' D zs nn → zs.size ≤ sizeLine → RVs (NN st.H (fun a => Sys a ∨ a = C ∨ a = D)) h' ys zs.toList → HW (FZ A Sys) s.heap h' → RR (.ref D) C (.ok .next) { s₂ with heap := h', toks := tk }) :
    wpAny (model G.prog G.w) A (newList []) (fun acc s₃ => wpAny (model G.prog G.w) A (newFunctionEnv sc env.globals cl [] env.qual none .none (some env)) (fun cenv s₄ =>
      codeAny (model G.prog G.w) A (.compStart (.ListComp elt [⟨tg, iter, ifs, 0⟩] sc pos) 0 (.ref I) acc { cenv with scope := relabel sc env }) (RR acc cenv.locals) s₄) E s₃) E s₂ := by
  obtain ⟨fp, wr, P, Mi, Si, W, hsi, hwr, hfp, hdep, hitem⟩ := io.ex
  have hcell : ∀ y ∈ sc.names, y.2 ≠ .cell := by
    intro y hy e
    rcases ht.names y hy with q | ⟨q, _⟩ | q <;> rw [e] at q <;> cases q
  refine wpAny_newObj_type (wpAny_newFunctionEnv hcell (by intro y hy; simp at hy) (fun h₁ hns₁ hsb₁ => ?_) ht.kind)
  dsimp only at hns₁ hsb₁ ⊢
  generalize hH2 : s₂.heap.push { cls := .type "list", dict := none, data := .seq ([] : List Value).toArray } = H2 at hns₁ hsb₁ ⊢
  have hC : H2.objs.size = s₂.heap.objs.size + 1 := by rw [← hH2, Heap.size_push]
  obtain ⟨D, hDe⟩ : ∃ D, s₂.heap.objs.size = D := ⟨_, rfl⟩
  obtain ⟨C, hCe⟩ : ∃ C, H2.objs.size = C := ⟨_, rfl⟩
  rw [hCe] at hns₁ hsb₁ hC ⊢
  rw [hDe] at hC ⊢
  have hfp : ∀ b ∈ fp, b < D := fun b hb => by
    obtain ⟨o, ho⟩ := hfp b hb
    exact hDe ▸ Heap.lt_size ho
  have hDC : D ≠ C := by omega
  have below : ∀ (b : Nat) o, s₂.heap.get? b = some o → b ≠ C ∧ b ≠ D := fun b o e => by have h' : b < s₂.heap.objs.size := Heap.lt_size e; omega
  have fresh₂ : ∀ b, D ≤ b → s₂.heap.get? b = none := fun b hb => Heap.get?_none_of_le (by omega)
  have old : ∀ b o, s₂.heap.get? b = some o → h₁.get? b = some o := fun b o e => hsb₁.extBut b o (below b o e).1 (Heap.get?_push_of_some _ (hH2 ▸ Heap.get?_push_of_some _ e))
  have hacc : IsL h₁ D #[] 0 := hsb₁.extBut D _ hDC (Heap.get?_push_of_some _ (hH2 ▸ hDe ▸ Heap.get?_push_size _ rfl))
  have hst₁ : Si 0 h₁ := W.frame _ _ _ hsi fun b _ o e => old b o e
  have hDs : s.heap.get? D = none := fresh_keeps k (fresh₂ D (Nat.le_refl _))
  have hCs : s.heap.get? C = none := fresh_keeps k (fresh₂ C (by omega))
  -- what is off limits inside
  let New : Addr → Prop := fun b => b = C ∨ b = D ∨ b ∈ wr
  let Sys' : Addr → Prop := fun a => Sys a ∨ New a
  have hNs : ∀ b, New b → s.heap.get? b = none := by
    rintro b (rfl | rfl | hb)
    · exact hCs
    · exact hDs
    · exact hwr b hb
  have hplace : ∀ i p, lay i = some p → p.addr ≠ C ∧ p.addr ≠ D ∧ p.addr ∉ wr := by
    intro i p hp
    have hl := F.sim.live _ (F.sim.sys i p hp).1
    exact ⟨fun e => hl (e ▸ hCs), fun e => hl (e ▸ hDs), fun e => hl (hwr _ e)⟩
  have hplaceC : ∀ i p, layC c.used C xs lay i = some p → Sys' p.addr := by
    intro i p hp
    simp only [layC] at hp
    split at hp
    · exact .inl (F.sim.sys i p hp).1
    · simp only [Option.map_eq_some_iff] at hp
      obtain ⟨x, _, rfl⟩ := hp
      exact .inr (.inl rfl)
  have hplaceC' : ∀ i p, layC c.used C xs lay i = some p → p.addr ≠ D ∧ p.addr ∉ wr := by
    intro i p hp
    simp only [layC] at hp
    split at hp
    · exact (hplace i p hp).2
    · simp only [Option.map_eq_some_iff] at hp
      obtain ⟨x, _, rfl⟩ := hp
      exact ⟨Ne.symm hDC, fun e => by have : C < D := hfp _ (W.sub _ e); omega⟩
  have hbaseC : base.get? C = none := F.sim.keep.ext hCs
  have hDz : ¬ ZA A D := F.nz hDs
  have hCz : ¬ ZA A C := F.nz hCs
  have hfz : ∀ b ∈ fp, ¬ ZA A b := fun b hb z => by
    by_cases hbw : b ∈ wr
    · exact F.nz (hwr b hbw) z
    · rcases hdep b hb hbw with q | q
      · exact q (.inr (F.za z))
      · exact q.2 (F.sim.dis b (F.za z))
  -- the loop
  have loop : ∀ s₃ : Shared, s₃ = { s₂ with heap := h₁, toks := s₂.toks + ([] : List (Str × Value)).length } →
      codeAny (model G.prog G.w) A (.compLoop (.ListComp elt [⟨tg, iter, ifs, 0⟩] sc pos) 0 (.ref I) (.ref D) (compEnvC sc cl C env)) (RR (.ref D) C) s₃ := by
    rintro s₃ rfl
    refine compLoop_gen (InvC A Sys (NN st.H Sys') vs wr Si s₂ D C f QQ) ?_ vs.length ⟨0, [], #[], 0, _, h₁, _, rfl, Nat.zero_le _, rfl, fun b o _ e => ⟨fun _ => old b o e, o.slots, old b o e⟩, hst₁, hacc, hns₁, .nil, Nat.le_refl _, by simpa using hc⟩
    rintro n s' ⟨i, acc, ys, nn, m, h, tk, hn, hi, rfl, hkeep, hs_i, hL, hM, hR, hsz, hcc⟩
    have toS : ∀ {h : Heap}, (∀ b o, b ∉ wr → s₂.heap.get? b = some o → (¬ FZ A Sys b → h.get? b = some o) ∧ ∃ sl, h.get? b = some { o with slots := sl }) → HW (FZ A Sys) s.heap h := fun {h} hkp b o e =>
      have nb : b ∉ wr := fun hb => by rw [hwr b hb] at e; cases e
      ⟨fun n => (hkp b o nb ((k.hw b o e).1 n)).1 n, let ⟨_, e1⟩ := (k.hw b o e).2; let ⟨sl, e2⟩ := (hkp b _ nb e1).2; ⟨sl, e2⟩⟩
    have hkeep_s := toS hkeep
    rcases Nat.lt_or_ge i vs.length with hlt | hge
    · -- one more
      have hx : vs[i]? = some vs[i] := List.getElem?_eq_getElem hlt
      rw [List.drop_eq_getElem_cons hlt] at hcc
      simp only [cl_nil, cl_cons] at hcc
      obtain ⟨ρ', hb, hstp⟩ := hstep _ _ hcc
      refine W.item i _ _ _ hlt hs_i fun val h1 tk1 hMi hfr hk1 => ?_
      refine W.own i { s₂ with heap := h1, toks := tk1 } val tg _ _ hMi hez fun h2 hs2 hP2 hk2 => ?_
      have hk02 : ∀ b o, b ∉ wr → h.get? b = some o → h2.get? b = some o := fun b o nb e => hk2 b o nb (hk1 b o nb e)
      have hk22 : ∀ b o, b ∉ wr → s₂.heap.get? b = some o → (¬ FZ A Sys b → h2.get? b = some o) ∧ ∃ sl, h2.get? b = some { o with slots := sl } := fun b o nb e => ⟨fun n => hk02 b o nb ((hkeep b o nb e).1 n), let ⟨sl, e'⟩ := (hkeep b o nb e).2; ⟨sl, hk02 b _ nb e'⟩⟩
      have hks2 := toS hk22
      have hCw : C ∉ wr := fun e => by have h' : C < D := hfp _ (W.sub _ e); omega
      have hDw : D ∉ wr := fun e => by have h' : D < D := hfp _ (W.sub _ e); omega
      have hL2 : IsL h2 D ys nn := hk02 D _ hDw hL
      have hM2 : h2.Ns C m := by
        obtain ⟨o, es, ep, ho, r⟩ := hM
        exact ⟨o, es, ep, hk02 C _ hCw ho, r⟩
      have hNew2 : ∀ b, New b → h2.get? b ≠ none := by
        rintro b (rfl | rfl | hb) e
        · obtain ⟨o, es, ep, ho, r⟩ := hM2
          rw [ho] at e; cases e
        · rw [hL2] at e; cases e
        · exact W.ex _ _ hs2 b hb e
      have S2 : Sim G.hf (TT G) lay Sys' (FZ A Sys) base st h2 := F.sim.enter (New := New) hks2 hNs hNew2
      have S3 : Sim G.hf (TT G) (layC c.used C xs lay) Sys' (FZ A Sys) base { st with ρ := wipe c.used st.ρ } h2 := S2.comp F.us (.inr (.inl rfl)) (fun i p hp => (hplace i p hp).1) hbaseC (F.sim.fresh hCs) hM2 ht.nd
      -- the item
      have hgenN : ∀ b, NN st.H Sys' b → NN st.H (fun a => Sys a ∨ a ∈ wr) b ∨ s₂.heap.get? b = none := by
        rintro b (q | q | rfl | rfl | q)
        · exact .inl (.inl q)
        · exact .inl (.inr (.inl q))
        · exact .inr (fresh₂ _ (by omega))
        · exact .inr (fresh₂ _ (Nat.le_refl _))
        · exact .inl (.inr (.inr q))
      have hgenK : ∀ b o, ¬ NN st.H (fun a => Sys a ∨ a ∈ wr) b → s₂.heap.get? b = some o → h2.get? b = some o := fun b o nb e => (hk22 b o (fun q => nb (.inr (.inr q))) e).1 fun q => nb (.inr (.inl q.2))
      have hval : RV (NN st.H Sys') h2 vs[i] val := by
        have := hitem i vs[i] val h2 hx hP2
        cases nw with
        | false => exact RV.gen hgenN hgenK this
        | true =>
          obtain ⟨t', xs', n', ws, e1, rfl, e3, e4, e5⟩ := this
          rw [e1]
          have hft : h.get? t' = none := hfr rfl t' rfl
          refine .tup (fun q => ?_) e3 e4 (RVs.gen hgenN hgenK e5)
          rcases q with q | q | rfl | rfl | q
          · exact q ((F.sim.kz hkeep_s).fresh hft)
          · exact (F.sim.kz hkeep_s).live _ q hft
          · obtain ⟨o, es, ep, ho, r⟩ := hM
            rw [ho] at hft; cases hft
          · rw [hL] at hft; cases hft
          · exact W.ex _ _ hs_i _ q hft
      obtain ⟨ρ₁, hb₁⟩ := bindT_ok (ρ₁ := wipe c.used st.ρ) hti (by rw [wipe_length]) hb
      have O' := env_comp (C := C) F.eo F.us ht hcl
      refine st_tg (c := inner c xs sc.names) F.cold O' (s := { s₂ with heap := h2, toks := tk1 }) S3 htg hb₁ hval fun h3 tk3 S4 tc => ?_
      have hus' : ∀ j p, layC c.used C xs lay j = some p → j < c.used + xs.length := by
        intro j p hp
        simp only [layC] at hp
        split at hp
        · omega
        · simp only [Option.map_eq_some_iff] at hp
          obtain ⟨x, hx, _⟩ := hp
          obtain ⟨hl, _⟩ := List.getElem?_eq_some_iff.mp hx
          omega
      have S5 : Sim G.hf (TT G) (layC c.used C xs lay) Sys' (FZ A Sys) base { st with ρ := ρ' } h3 := S4.forget (ρ' := ρ') fun j v p hp hv => by
        rw [← bindT_agree hti (by rw [wipe_length]) (fun q hq => (wipe_lo hq).symm) hb hb₁ j (hus' j p hp)]; exact hv
      have hk23 : ∀ b o, ¬ Sys' b → h2.get? b = some o → h3.get? b = some o := fun b o nb e => tc b o (fun j _ p hp hb => nb (hb ▸ hplaceC j p hp)) e
      have hk33 : ∀ b o, b ≠ C → h2.get? b = some o → h3.get? b = some o := fun b o nb e => tc b o (fun j hj p hp hb => by
        have hju : c.used ≤ j := tgIs_idx hti j hj
        simp only [layC] at hp
        rw [if_neg (by omega)] at hp
        simp only [Option.map_eq_some_iff] at hp
        obtain ⟨x, _, rfl⟩ := hp
        exact nb hb) e
      have F5 : Fx G d (inner c xs sc.names) A (compEnvC sc cl C env) (layC c.used C xs lay) Sys' base { st with ρ := ρ' } { s₂ with heap := h3, toks := tk3 } := by
        have ez : FZ A Sys' = FZ A Sys := funext fun b => propext ⟨fun q => ⟨q.1, F.za q.1⟩, fun q => ⟨q.1, .inl q.2⟩⟩
        refine ⟨⟨F.rm, O', hus', ez ▸ S5, F.own, F.cold⟩, ?_, ?_⟩
        · obtain ⟨lv, l, e, f⟩ := F.fr
          refine ⟨S5.live, l, e, fun v hv => ?_⟩
          obtain ⟨g1, L', o, g2, g3, g4, g5⟩ := f v hv
          obtain ⟨sl, g6⟩ := (hks2 L' o g4).2
          exact ⟨g1, L', _, g2, .inl g3, hk33 L' _ (fun q => hCz (q ▸ ⟨l, v, e, hv, g2⟩)) g6, g5⟩
        · exact .inr (F.hdo ht.dead)
      have hL3 : IsL h3 D ys nn := tc D _ (fun j _ p hp => Ne.symm (hplaceC' j p hp).1) hL2
      have hM3 : ∃ m', h3.Ns C m' := by
        -- the names of the frame stand
        cases xs with
        | nil =>
          exact (tgIs_ne hti).elim
        | cons x r => exact S5.ok c.used (.loc C x) (by simp [layC])
      have hsi3 : Si (i + 1) h3 := W.frame _ _ _ hs2 fun b hb o e => tc b o (fun j _ p hp hbe => by
        simp only [layC] at hp
        split at hp
        · have h3' := hplace j p hp
          have hs' := F.sim.sys j p hp
          by_cases hbw : b ∈ wr
          · exact h3'.2.2 (hbe ▸ hbw)
          · rcases hdep b hb hbw with q | q
            · exact q (.inr (hbe ▸ hs'.1))
            · exact q.2 (hbe ▸ hs'.2.2)
        · simp only [Option.map_eq_some_iff] at hp
          obtain ⟨x, _, rfl⟩ := hp
          have hbe : b = C := hbe
          have h' : C < D := hbe ▸ hfp b hb
          omega) e
      -- what each way of the turn leaves
      refine hstp F5 (fun o s₄ => match o with
        | some v => wpAny (model G.prog G.w) A (call (.builtin "list.append") [.ref D, v]) (fun _ s₅ => ∃ m, m < n ∧ InvC A Sys (NN st.H Sys') vs wr Si s₂ D C f QQ m s₅) (notedBy (model G.prog G.w) A (compEnvC sc cl C env) fun e s' => RR (.ref D) C (.error e) s') s₄
        | none => ∃ m, m < n ∧ InvC A Sys (NN st.H Sys') vs wr Si s₂ D C f QQ m s₄) _ ?_ ?_
      · rintro y v s₄ hq rv ⟨h4, tk4, rfl, hk4⟩
        have hL4 : IsL h4 D ys nn := (hk4 _ _ hL3).1 fun q => hDz q.1
        refine append_call hL4 (by omega) ?_
        have hot0 : ∀ b o, b ≠ D → h4.get? b = some o → (h4.update D (Obj.mapSeq fun xs => xs.push v)).get? b = some o := fun b o nb e => (Heap.get?_update_other _ _ (Ne.symm nb)).trans e
        have hoth : ∀ b o, b ≠ D → ¬ ZA A b → h3.get? b = some o → (h4.update D (Obj.mapSeq fun xs => xs.push v)).get? b = some o := fun b o nb nz e => hot0 b o nb ((hk4 b o e).1 fun q => nz q.1)
        have hR' : ∀ {us : List V} {zs : List Value}, RVs (NN st.H Sys') h4 us zs → RVs (NN st.H Sys') (h4.update D (Obj.mapSeq fun xs => xs.push v)) us zs := fun r => r.gen (fun _ q => .inl q) fun b o nb e => (Heap.get?_update_other _ _ (fun q => nb (.inr (.inr (.inr (.inl q.symm)))))).trans e
        obtain ⟨m3, hM3⟩ := hM3
        refine ⟨vs.length - (i + 1), by omega, i + 1, acc ++ [y], ys.push v, _, m3, _, tk4, rfl, hlt, rfl, ?_, ?_, hL4.update _, ?_, ?_, ?_, ?_⟩
        · intro b o nb e
          refine ⟨fun n => hot0 b o (below b o e).2 ((hk4 b o (hk33 b o (below b o e).1 ((hk22 b o nb e).1 n))).1 fun q => n ⟨q.1, F.za q.1⟩), ?_⟩
          obtain ⟨_, e1⟩ := (hk22 b o nb e).2
          obtain ⟨sl, e2⟩ := (hk4 b _ (hk33 b _ (below b o e).1 e1)).2
          exact ⟨sl, hot0 b _ (below b o e).2 e2⟩
        · exact W.frame _ _ _ hsi3 fun b hb o e => hoth b o (fun q => by have h' : D < D := q ▸ hfp b hb; omega) (hfz b hb) e
        · exact hM3.at' fun o e => hoth C o (Ne.symm hDC) hCz e
        · rw [Array.toList_push]
          refine RVs.append (hR' ?_) (hR' (.cons rv .nil))
          refine RVs.gen (fun _ q => .inl q) (fun b o nb e => (hk4 b o (hk23 b o (fun q => nb (.inr q)) (hk02 b o (fun q => nb (.inr (.inr (.inr (.inr q))))) e))).1 fun q => nb (.inr q.2)) hR
        · simp; omega
        · simpa using hq
      · rintro s₄ hq ⟨h4, tk4, rfl, hk4⟩
        obtain ⟨m3, hM3⟩ := hM3
        refine ⟨vs.length - (i + 1), by omega, i + 1, acc, ys, _, m3, _, tk4, rfl, hlt, rfl, ?_, ?_, (hk4 _ _ hL3).1 (fun q => hDz q.1), ?_, ?_, ?_, ?_⟩
        · intro b o nb e
          refine ⟨fun n => (hk4 b o (hk33 b o (below b o e).1 ((hk22 b o nb e).1 n))).1 fun q => n ⟨q.1, F.za q.1⟩, ?_⟩
          obtain ⟨_, e1⟩ := (hk22 b o nb e).2
          obtain ⟨sl, e2⟩ := (hk4 b _ (hk33 b _ (below b o e).1 e1)).2
          exact ⟨sl, e2⟩
        · exact W.frame _ _ _ hsi3 fun b hb o e => (hk4 b o e).1 fun q => hfz b hb q.1
        · exact hM3.at' fun o e => (hk4 C o e).1 fun q => hCz q.1
        · refine RVs.gen (fun _ q => .inl q) (fun b o nb e => (hk4 b o (hk23 b o (fun q => nb (.inr q)) (hk02 b o (fun q => nb (.inr (.inr (.inr (.inr q))))) e))).1 fun q => nb (.inr q.2)) hR
        · omega
        · simpa using hq
    · -- the end
      have hi' : i = vs.length := by omega
      subst hi'
      rw [List.drop_length] at hcc
      simp only [cl_nil, cl_cons, List.append_nil] at hcc
      have hq : Hq A h := F.hdo ht.dead
      have hy : ∀ y, A.handled = some (.ref y) → y ∉ wr := fun y e hb => by
        rw [show A.handled = none from F.hdo ht.dead] at e; cases e
      refine W.done _ _ _ hq hy hs_i fun h1 tk1 hk1 => ?_
      have hCw : C ∉ wr := fun e => by have h' : C < D := hfp _ (W.sub _ e); omega
      have hDw : D ∉ wr := fun e => by have h' : D < D := hfp _ (W.sub _ e); omega
      have hM1 : h1.Ns C m := hM.at' fun o e => hk1 C o hCw e
      refine hRR D C h1 tk1 m acc ys nn hcc hDs hCs hDC hM1 (hk1 D _ hDw hL) (by omega) (hR.gen (fun b q => ?_) fun b o nb e => hk1 b o (fun q => nb (.inr (.inr (.inr (.inr q))))) e) (toS fun b o nb e => ⟨fun n => hk1 b o nb ((hkeep b o nb e).1 n), let ⟨sl, e'⟩ := (hkeep b o nb e).2; ⟨sl, hk1 b _ nb e'⟩⟩)
      rcases q with q | q | q | q
      · exact .inl (.inl q)
      · exact .inl (.inr (.inl q))
      · exact .inl (.inr (.inr (.inl q)))
      · exact .inl (.inr (.inr (.inr (.inl q))))
  exact codeAny_compStart_list (loop _ rfl) (W.self 0 _ _ _ hst₁ (loop _ rfl))
end

end Mine
end

section
set_option autoImplicit false
namespace Mine
open PySem

section
variable {G : PG} {d : Nat} {c : Sc} {A : Around} {env : Env} {lay : Nat → Option Place} {Sys : Addr → Prop} {base : Heap} {st : St} {s : Shared}

theorem folded_plain {x : Expr} (h : isSetX x = false) (env : Env) (v : Value) : foldedSetIterable x env v = pure v := by
  cases x <;> first | rfl | exact nomatch h

theorem free_cells {xs : List Str} {sc : Scope} (O : EnvOk env c.names c.σ lay) (ht : TableOk c xs sc) : ∀ p ∈ sc.names, p.2 = .free → ∃ a, env.cells.lookup p.1 = some a := by
  intro p hp hf
  rcases ht.names p hp with q | ⟨_, _, ⟨i, hi⟩, hk, _⟩ | q
  · rw [hf] at q; cases q
  · obtain ⟨pl, _, hc⟩ := O.vars p.1 i hi
    have hk' : env.kindOf p.1 = some .cell ∨ env.kindOf p.1 = some .free := hk.elim (fun q => .inl (O.ce _ q)) (O.fr _)
    rcases hc with ⟨hl, _⟩ | ⟨_, _, a, ha, _⟩
    · rcases hk' with q | q <;> rw [hl] at q <;> cases q
    · exact ⟨a, ha⟩
  · rw [hf] at q; cases q

/-- a comprehension's value -/
theorem comp_val {f : V → (Option V → Prop) → Prop} {t : Tg} {tg iter elt : Expr} {ifs : List Expr} {sc : Scope} {pos : Pos} {xs : List Str} {it : It} {Q : V → Prop} {X : String → Prop} {K E : Value → Shared → Prop}
    (F : Fx G d c A env lay Sys base st s) (hi : SI G d c it iter) (hset : isSetX iter = false) (hez : isEZ it = true → isTupX tg = true) (ht : TableOk c xs sc) (hti : tgIs c.used t xs = true) (htg : chkTg (inner c xs sc.names) t tg = true)
    (hstep : CStep G d c A st base xs sc t ifs elt f) (hW : WI (G.cx d) it st (fun xs _ => xs.length ≤ sizeLine ∧ compL f xs (fun ys => Q (.lst ys))) X)
    (hK : ∀ v val s', Q v → RV (NN st.H Sys) s'.heap v val → Kp (FZ A Sys) s s' → Frsh (NN st.H Sys) s s' v val → K val s') (hX : ∀ e s', Rz G.mg A Sys s X e s' → E e s') :
    wpAny (model G.prog G.w) A (eval (.ListComp elt [⟨tg, iter, ifs, 0⟩] sc pos) env) K E s := by
  rw [eval_ListComp]
  obtain ⟨cl, e1, e2⟩ := closure_ok (free_cells F.eo ht)
  refine wpAny_comprehension_free (use := none) rfl (folded_plain hset env) e1 ht.kind (fun x hx hl => by rw [← hl]; exact nodup_lookup ht.nodup hx) ?_
  refine hi F _ X _ E hW (fun vs ds I s₂ hq k io => ?_) hX
  refine comp_block (RR := fun acc C => compPost (model G.prog G.w) A E none K acc C) F k io hez hq.1 ht hti htg e2 hstep hq.2 ?_
  intro D C h' tk m' ys zs nn hQ hD hC hDC hm hl hz hr hk
  refine ⟨m', hm, fun h'' hs => ?_⟩
  obtain ⟨h2, t2, rfl, k2⟩ := k
  have hkk : HW (FZ A Sys) s.heap h'' := hk.ext1 hC hs.extBut
  have hl' : IsL h'' D zs nn := hs.extBut D _ hDC hl
  have hr' : RVs (fun b => NN st.H Sys b ∨ b = D) h'' ys zs.toList := hr.gen (fun b q => by
    rcases q with (q | q) | q
    · exact .inl (.inl q)
    · exact .inl (.inr (.inl q))
    · exact .inl (.inr (.inr (.inr q)))) fun b o nb e => hs.extBut b o (fun q => nb (.inr (.inr (.inl q)))) e
  refine hK _ _ _ hQ (new_at F.sim.objs F.sim.live hD hl' hz (hr'.less fun b q => .inl q)) (Kp.ofW hkk) ?_
  rintro a ⟨⟩
  refine ⟨hD, ?_⟩
  rintro vs' ⟨⟩
  exact ⟨zs, nn, hl', hz, hr'⟩

theorem cstep_plain {t : Tg} {e : E} {elt : Expr} {sc : Scope} {xs : List Str} (he : SE G d (inner c xs sc.names) e elt) :
    CStep G d c A st base xs sc t [] elt (fun x k => match bindT t x st.ρ with
        | some ρ' => WE (G.cx d) e { st with ρ := ρ' } (fun y => k (some y)) (fun _ => False)
        | none => False) := by
  intro x k h
  split at h
  · rename_i ρ' hb
    refine ⟨ρ', hb, fun {cenv lay' Sys' s'} F K E' hs hn => wpAny_tests_nil ?_⟩
    rw [if_pos rfl]
    exact (he F).weak _ (fun _ => False) _ _ h (fun v val s'' q r k' _ => hs v val s'' q r k') fun e s'' q => q.no.elim
  · exact h.elim

theorem se_comp {t : Tg} {e : E} {tg iter elt : Expr} {sc : Scope} {pos : Pos} {xs : List Str} {it : It} (F : Fx G d c A env lay Sys base st s) (hi : SI G d c it iter) (hset : isSetX iter = false) (hez : isEZ it = true → isTupX tg = true) (ht : TableOk c xs sc) (hti : tgIs c.used t xs = true)
    (htg : chkTg (inner c xs sc.names) t tg = true) (he : SE G d (inner c xs sc.names) e elt) : Snd G.prog G.w G.mg A (NN st.H Sys) Sys s true (eval (.ListComp elt [⟨tg, iter, [], 0⟩] sc pos) env) (WE (G.cx d) (.comp e t it) st) := by
  intro Q X K E hW hK hX
  simp only [we_0, we_1, we_2, we_3, we_4, we_5, we_6, we_7, we_8, we_9, we_10, we_11, we_12, we_13, we_14, we_15, we_16, we_17, we_18, we_19, we_20, we_21, we_22, we_23, we_24, we_25, we_26, we_27, we_28, we_29, we_30, we_31, we_32, we_33, we_34, we_35, we_36, we_37] at hW
  exact comp_val F hi hset hez ht hti htg (cstep_plain he) hW (fun v val s' q r k f => hK v val s' q r k fun _ => f) hX
end

end Mine
end

section
set_option autoImplicit false
namespace Mine
open PySem

/-- what a call of the table's functions gives, at so many levels of calls -/
noncomputable def CallSnd (G : PG) (d : Nat) : Prop :=
  ∀ {A : Around} {H : AH} {Sys : Addr → Prop} {s : Shared} {f : String} {fa : Addr} {vs : List V} {vals : List Value}, RmC d A → (∃ b0, TT G b0 ∧ HK b0 s.heap ∧ ∀ a, NN H Sys a → b0.get? a = none) → HO G.hf H Sys s.heap → (∀ a, Sys a → s.heap.get? a ≠ none) → (∀ a, Sys a → H a = none) → FrOk A Sys s.heap → HdOk A Sys s.heap → (G.hots.contains f = false → A.handled = none) → G.mg (Str.ofString f) = some (.ref fa) →
    RVs (NN H Sys) s.heap vs vals → ∀ (Q : V → AH → Prop) (X : String → Prop) (K E : Value → Shared → Prop), (G.cx d).run f vs H Q X → (∀ v val H' Sys' s', Q v H' → Given G.hf H H' Sys Sys' s s' → RV (NN H' Sys') s'.heap v val → Kp (FZ A Sys) s s' → K val s') → (∀ e s', Rz G.mg A Sys s X e s' → E e s') →
      wpAny (model G.prog G.w) A (call (.ref fa) vals) K E s

section
variable {G : PG} {d : Nat} {c : Sc} {A : Around} {env : Env} {lay : Nat → Option Place} {Sys : Addr → Prop} {base : Heap} {st : St} {s : Shared}

theorem call_raw (hc : CallSnd G d) {f : String} {es : Es} {y : Str} {p pos : Pos} {z : Expr} {xs : List Expr} (F : Fx G d c A env lay Sys base st s) (hg : isGlob c y f = true) (h : SEs G d c es (z :: xs)) (hf : ∃ fn, G.tbl.lookup f = some fn) (hfn0 : c.fns.contains f = true) (hho : c.hots = G.hots) :
    ∀ (Q : V → AH → Prop) (X : String → Prop) (K E : Value → Shared → Prop), WEs (G.cx d) es st (fun vs => (G.cx d).run f vs st.H Q X) X → (∀ v val H' Sys' s', Q v H' → Given G.hf st.H H' Sys Sys' s s' → RV (NN H' Sys') s'.heap v val → Kp (FZ A Sys) s s' → K val s') → (∀ e s', Rz G.mg A Sys s X e s' → E e s') →
      wpAny (model G.prog G.w) A (eval (.Call (.Name y p) (z :: xs) [] pos) env) K E s := by
  intro Q X K E hW hK hX
  obtain ⟨fn, hfn⟩ := hf
  have hcold : G.hots.contains f = false → A.handled = none := fun e => F.cold (by
    have := isGlob_hot hg
    unfold hotOk at this
    rw [hho, e, hfn0] at this
    cases q : c.hot with
    | false => rfl
    | true => rw [q] at this; simp at this)
  have hnd : ¬ (c.hot = true ∧ c.dead = true) := fun ⟨q1, q2⟩ => by
    have := isGlob_hot hg
    unfold hotOk at this
    rw [hfn0, q1, q2] at this
    simp at this
  obtain ⟨b0, T0, k0, n0⟩ := F.sim.topH
  obtain ⟨dr, a, o, pm, code, doc, h1, h2, h3, h4, h5⟩ := T0.fn f fn hfn
  have k0' : ∀ {s₁ : Shared}, Kp (FZ A Sys) s s₁ → HK b0 s₁.heap := fun k₁ b o e => (k₁.hw b o (k0 b o e)).1 fun q => by rw [n0 b (.inr q.2)] at e; cases e
  rw [arm_eval_Call_Name']
  refine wpAny_bind (ld_glob F hg h1 ?_)
  have e : backTo pos (starEach (z :: xs) env) = (false, eval z env) :: backTo pos (starEach xs env) := by
    have := h.1
    simp only [List.all_cons, Bool.and_eq_true] at this
    rw [starEach_cons this.1]; rfl
  have hs := h.2 F pos _ X (fun vals s' => (s'.heap.get? a = some o ∧ o.data = .func (Calls.docDef dr.name dr.params dr.body dr.scope pm code doc)) ∧ wpAny (model G.prog G.w) A (call (.ref a) vals) K E s') E hW (fun vs vals s' q r k => ?_) hX
  · show wpAny _ _ (callWith pos (.ref a) [] _ _) _ _ _
    rw [e] at hs ⊢
    exact Calls.callWith_function (Calls.evalArgs_plain hs)
  · have F' := F.keeps k
    exact ⟨⟨(k0' k) _ _ h2, h3⟩, hc F'.rm.toC F'.sim.topH F'.sim.objs F'.sim.live F'.sim.dis F'.fr (F'.hd.resolve_left hnd) hcold h1 r Q X K E q (fun v val H' Sys' s'' q' g r' k' => hK v val H' Sys' s'' q' (g.before k) r' (k.trans k')) fun e s'' q' => hX e s'' (Rz.trans k q')⟩
theorem se_call (hc : CallSnd G d) {f : String} {es : Es} {y : Str} {p pos : Pos} {z : Expr} {xs : List Expr} (F : Fx G d c A env lay Sys base st s) (hg : isGlob c y f = true) (h : SEs G d c es (z :: xs)) (hf : ∃ fn, G.tbl.lookup f = some fn) (hfn0 : c.fns.contains f = true) (hho : c.hots = G.hots) :
    Snd G.prog G.w G.mg A (NN st.H Sys) Sys s false (eval (.Call (.Name y p) (z :: xs) [] pos) env) (WE (G.cx d) (.call f es) st) := by
  intro Q X K E hW hK hX
  simp only [we_0, we_1, we_2, we_3, we_4, we_5, we_6, we_7, we_8, we_9, we_10, we_11, we_12, we_13, we_14, we_15, we_16, we_17, we_18, we_19, we_20, we_21, we_22, we_23, we_24, we_25, we_26, we_27, we_28, we_29, we_30, we_31, we_32, we_33, we_34, we_35, we_36, we_37] at hW
  refine call_raw hc F hg h hf hfn0 hho _ X K E hW (fun v val H' Sys' s' q g r k => ?_) hX
  have hfz := frz_ok (H := H') (B := st.H) (Sys := Sys) (Sys' := Sys') (h := s'.heap) g.ho g.sub g.stay fun a q q' hs => F.sim.live a hs (g.own a q q')
  split at q
  · rename_i v' hv'
    exact hK v' _ s' q ((hfz 8).1 _ _ _ hv' r) k nofun
  · exact q.elim
end

theorem st_ite {G : PG} {d : Nat} {c : Sc} {t a b : E} {y z u : Expr} {pos : Pos} (ht : ST G d c t y) (ha : ST G d c a z) (hb : ST G d c b u) : ST G d c (.ite t a b) (.IfExp y z u pos) := by
  intro A env lay Sys base st s F Q X K E hW hK hX
  simp only [we_0, we_1, we_2, we_3, we_4, we_5, we_6, we_7, we_8, we_9, we_10, we_11, we_12, we_13, we_14, we_15, we_16, we_17, we_18, we_19, we_20, we_21, we_22, we_23, we_24, we_25, we_26, we_27, we_28, we_29, we_30, we_31, we_32, we_33, we_34, we_35, we_36, we_37] at hW
  show wpAny _ _ (do if ← isTrue y env (eval y env) then isTrue z env (eval z env) else isTrue u env (eval u env)) _ _ _
  refine wpAny_bind (ht F (fun r => if r then WE (G.cx d) a st (fun u => match truthV st.H u with | some b => Q b | none => False) X else WE (G.cx d) b st (fun u => match truthV st.H u with | some b => Q b | none => False) X) X _ E (WE_cg hW fun u => ?_) (fun r s₁ q k => ?_) hX)
  · cases truthV st.H u with
    | none => rfl
    | some r => cases r <;> rfl
  · cases r
    · simp only [Bool.false_eq_true, if_false] at q ⊢
      exact hb (F.keeps k) Q X K E q (fun b s' q' k' => hK b s' q' (k.trans k')) fun e s' q' => hX e s' (Rz.trans k q')
    · simp only [if_true] at q ⊢
      exact ha (F.keeps k) Q X K E q (fun b s' q' k' => hK b s' q' (k.trans k')) fun e s' q' => hX e s' (Rz.trans k q')

theorem isComp_inv {y : Expr} (h : isComp y = true) : (∃ a b c d, y = .ListComp a b c d) ∨ (∃ a b c d, y = .SetComp a b c d) ∨ (∃ a b c d e, y = .DictComp a b c d e) := by
  cases y <;> first | exact ff h | exact .inl ⟨_, _, _, _, rfl⟩ | exact .inr (.inl ⟨_, _, _, _, rfl⟩) | exact .inr (.inr ⟨_, _, _, _, _, rfl⟩)
theorem comp_only {c : Sc} {e : E} {y : Expr} (he : chkE c e y = true) (h : isComp y = true) : isCompE e = true := by
  rcases isComp_inv h with ⟨a, b, g, d, rfl⟩ | ⟨a, b, g, d, rfl⟩ | ⟨a, b, g, d, p, rfl⟩ <;> cases e <;> first | rfl | exact ff he

theorem tyNames {t : Ty} (h : plainTy t = true) : tyName t ∈ bnames ∧ bval (tyName t) = .type (tyName t) := by
  cases t <;> first | exact ⟨by decide, rfl⟩ | exact ff h

end Mine
end

section
set_option autoImplicit false
set_option maxRecDepth 100000
namespace Mine
open PySem
section
variable {G : PG} {d : Nat} {c : Sc} {A : Around} {env : Env} {lay : Nat → Option Place} {Sys : Addr → Prop} {base : Heap} {st : St} {s : Shared}
end
end Mine
end

section
set_option autoImplicit false
namespace Mine
open PySem

theorem tbl_mem {tbl : Tbl} : ∀ {f : String}, (tbl.map (·.1)).contains f = true → ∃ fn, tbl.lookup f = some fn := by
  induction tbl with
  | nil => intro f h; simp at h
  | cons p r ih =>
    intro f h
    obtain ⟨n, fn⟩ := p
    simp only [List.lookup_cons]
    cases e : f == n with
    | true => exact ⟨_, rfl⟩
    | false =>
      refine ih ?_
      simp only [List.map_cons, List.contains_cons, e, Bool.false_or] at h
      exact h

section
variable {G : PG} {d : Nat}

theorem both {c : Sc} {e : E} {x : Expr} (h1 : SE G d c e x) (h2 : ∀ (env : Env) (w : Sem Value), isTrue x env w = (do let v ← w; standAt x.pos; holding [v] (truthy v))) : SE G d c e x ∧ ST G d c e x := ⟨h1, st_of h1 h2⟩

mutual
theorem sndE (hc : CallSnd G d) : ∀ (e : E) (c : Sc) (x : Expr), c.fns = G.tbl.map (·.1) ∧ c.xs = G.xs ∧ c.hots = G.hots → chkE c e x = true → SE G d c e x ∧ ST G d c e x
  | .none, c, x, hf, h => by
    apply onConst_elim h; clear h; intro v kk pp h
    have e := of_decide_eq_true h
    subst e
    · exact both (fun {A env lay Sys base st s} F Q X K E hW hK hX => by
        simp only [we_0, we_1, we_2, we_3, we_4, we_5, we_6, we_7, we_8, we_9, we_10, we_11, we_12, we_13, we_14, we_15, we_16, we_17, we_18, we_19, we_20, we_21, we_22, we_23, we_24, we_25, we_26, we_27, we_28, we_29, we_30, we_31, we_32, we_33, we_34, we_35, we_36, we_37] at hW; exact snd_none Q X K E hW hK hX) fun _ _ => rfl
  | .bool b, c, x, hf, h => by
    apply onConst_elim h; clear h; intro v kk pp h
    have e := of_decide_eq_true h
    subst e
    · exact both (fun {A env lay Sys base st s} F Q X K E hW hK hX => by
        simp only [we_0, we_1, we_2, we_3, we_4, we_5, we_6, we_7, we_8, we_9, we_10, we_11, we_12, we_13, we_14, we_15, we_16, we_17, we_18, we_19, we_20, we_21, we_22, we_23, we_24, we_25, we_26, we_27, we_28, we_29, we_30, we_31, we_32, we_33, we_34, we_35, we_36, we_37] at hW; exact snd_bool Q X K E hW hK hX) fun _ _ => rfl
  | .int i, c, x, hf, h => by
    apply onConst_elim h; clear h; intro v kk pp h
    have e := of_decide_eq_true h
    subst e
    · exact both (fun {A env lay Sys base st s} F Q X K E hW hK hX => by
        simp only [we_0, we_1, we_2, we_3, we_4, we_5, we_6, we_7, we_8, we_9, we_10, we_11, we_12, we_13, we_14, we_15, we_16, we_17, we_18, we_19, we_20, we_21, we_22, we_23, we_24, we_25, we_26, we_27, we_28, we_29, we_30, we_31, we_32, we_33, we_34, we_35, we_36, we_37] at hW; exact snd_int Q X K E hW hK hX) fun _ _ => rfl
  | .str u, c, x, hf, h => by
    apply onConst_elim h; clear h; intro v kk pp h
    · apply and3_elim h; clear h; intro e0_ h1 h2
      try simp only [decide_eq_true_eq] at e0_
      try simp only [decide_eq_true_eq] at h1
      try simp only [decide_eq_true_eq] at h2
      subst e0_
      have h : (True ∧ u.length ≤ sizeLine) ∧ u.cps.all (· < 0x110000) = true := ⟨⟨trivial, h1⟩, h2⟩
      have ho : SOk u := ⟨h.1.2, fun c hc => by
        have := h.2
        rw [← Array.all_toList, List.all_eq_true] at this
        simpa using this c hc⟩
      exact both (fun {A env lay Sys base st s} F Q X K E hW hK hX => by
        simp only [we_0, we_1, we_2, we_3, we_4, we_5, we_6, we_7, we_8, we_9, we_10, we_11, we_12, we_13, we_14, we_15, we_16, we_17, we_18, we_19, we_20, we_21, we_22, we_23, we_24, we_25, we_26, we_27, we_28, we_29, we_30, we_31, we_32, we_33, we_34, we_35, we_36, we_37] at hW; exact snd_str ho Q X K E hW hK hX) fun _ _ => rfl
  | .var i, c, x, hf, h => by
    apply onName_elim h; clear h; intro y p h
    · exact both (fun {A env lay Sys base st s} F => se_var F h) fun _ _ => rfl
  | .glob g, c, x, hf, h => by
    apply onName_elim h; clear h; intro y p h
    · exact both (fun {A env lay Sys base st s} F => se_glob F h) fun _ _ => rfl
  | .bin op a b, c, x, hf, h => by
    apply onBin_elim h; clear h; intro l o r p h
    · apply and3_elim h; clear h; intro e0_ ha hb
      try simp only [decide_eq_true_eq] at e0_
      try simp only [decide_eq_true_eq] at ha
      try simp only [decide_eq_true_eq] at hb
      subst e0_
      exact both (fun {A env lay Sys base st s} F => se_bin F (sndE hc a c _ hf ha).1 (sndE hc b c _ hf hb).1) fun _ _ => rfl
  | .neg a, c, x, hf, h => by
    apply onUn_elim h; clear h; intro o y p h
    · apply and2_elim h; clear h; intro e0_ ha
      try simp only [decide_eq_true_eq] at e0_
      try simp only [decide_eq_true_eq] at ha
      subst e0_
      exact both (fun {A env lay Sys base st s} F => se_neg F (sndE hc a c _ hf ha).1) fun _ _ => rfl
  | .not a, c, x, hf, h => by
    apply onUn_elim h; clear h; intro o y p h
    · apply and2_elim h; clear h; intro e0_ ha
      try simp only [decide_eq_true_eq] at e0_
      try simp only [decide_eq_true_eq] at ha
      subst e0_
      exact ⟨fun {A env lay Sys base st s} F => se_not F (sndE hc a c _ hf ha).1, st_not (sndE hc a c _ hf ha).2⟩
  | .and a b, c, x, hf, h => by
    apply onBool_elim h; clear h; intro o ys p h
    apply and2_elim h; clear h; intro h1 h2
    have e := of_decide_eq_true h1
    subst e
    rcases andT_inv h2 with ⟨y, z, rfl, ha, hb⟩ | ⟨y, z, u, r, rfl, ha, hb⟩
    · exact ⟨fun {A env lay Sys base st s} F => se_and F (sndE hc a c _ hf ha).1 (sndE hc b c _ hf hb).1, st_and2 (sndE hc a c _ hf ha).2 (sndE hc b c _ hf hb).2⟩
    · exact ⟨fun {A env lay Sys base st s} F => se_andN F (sndE hc a c _ hf ha).1 (sndE hc b c _ hf hb).1, st_and (sndE hc a c _ hf ha).2 (sndE hc b c _ hf hb).2⟩
  | .or a b, c, x, hf, h => by
    apply onBool_elim h; clear h; intro o ys p h
    apply and2_elim h; clear h; intro h1 h2
    have e := of_decide_eq_true h1
    subst e
    rcases andT_inv h2 with ⟨y, z, rfl, ha, hb⟩ | ⟨y, z, u, r, rfl, ha, hb⟩
    · exact ⟨fun {A env lay Sys base st s} F => se_or F (sndE hc a c _ hf ha).1 (sndE hc b c _ hf hb).1, st_or2 (sndE hc a c _ hf ha).2 (sndE hc b c _ hf hb).2⟩
    · exact ⟨fun {A env lay Sys base st s} F => se_orN F (sndE hc a c _ hf ha).1 (sndE hc b c _ hf hb).1, st_or (sndE hc a c _ hf ha).2 (sndE hc b c _ hf hb).2⟩
  | .ite t a b, c, x, hf, h => by
    apply onIf_elim h; clear h; intro y z u p h
    · apply and3_elim h; clear h; intro ht ha hb
      exact ⟨fun {A env lay Sys base st s} F => se_ite F (sndE hc t c _ hf ht).2 (sndE hc a c _ hf ha).1 (sndE hc b c _ hf hb).1, st_ite (sndE hc t c _ hf ht).2 (sndE hc a c _ hf ha).2 (sndE hc b c _ hf hb).2⟩
  | .list es, c, x, hf, h => by
    apply onList_elim h; clear h; intro xs p h
    · exact both (fun {A env lay Sys base st s} F => se_list F (sndEs hc es c _ hf h)) fun _ _ => rfl
  | .tup es, c, x, hf, h => by
    apply onTup_elim h; clear h; intro xs k p h
    · exact both (fun {A env lay Sys base st s} F => se_tup F (sndEs hc es c _ hf h)) fun _ _ => rfl
  | .cmp a ch, c, x, hf, h => by
    apply onCmp_elim h; clear h; intro l o r p h
    · apply and3_elim h; clear h; intro hm ha hb
      try simp only [Bool.not_eq_true'] at hm
      try simp only [Bool.not_eq_true'] at ha
      try simp only [Bool.not_eq_true'] at hb
      exact ⟨fun {A env lay Sys base st s} F => se_cmp F (sndE hc a c _ hf ha).1 (sndCh hc ch c _ _ hf hb) hm, st_cmp (sndE hc a c _ hf ha).1 (sndCh hc ch c _ _ hf hb) hm⟩
  | .sub a i, c, x, hf, h => by
    apply onSub_elim h; clear h; intro y z p h
    · apply and3_elim h; clear h; intro ha hi hp
      exact both (fun {A env lay Sys base st s} F => se_sub F (sndE hc a c _ hf ha).1 (sndE hc i c _ hf hi).1 hp) fun _ _ => rfl
  | .slice a lo hi, c, x, hf, h => by
    apply onSub_elim h; clear h; intro y z p h
    apply onSlice_elim h; clear h; intro l h' sp p' h
    · apply and4_elim h; clear h; intro hsn ha hl hh
      cases sp with
      | some _ => exact ff hsn
      | none =>
      have p1 : SP G d c lo l := by
        cases l with
        | none => cases lo <;> first | rfl | exact ff hl
        | some l => exact (sndE hc lo c _ hf hl).1
      have p2 : SP G d c hi h' := by
        cases h' with
        | none => cases hi <;> first | rfl | exact ff hh
        | some l => exact (sndE hc hi c _ hf hh).1
      exact both (fun {A env lay Sys base st s} F => se_slice F (sndE hc a c _ hf ha).1 p1 p2) fun _ _ => rfl
  | .call f es, c, x, hf, h => by
    apply onCallN_elim h; clear h; intro y p xs q h
    · apply and4_elim h; clear h; intro h0 hg hm hs
      obtain ⟨z, r, rfl⟩ := some1_inv h0
      exact both (fun {A env lay Sys base st s} F => se_call hc F hg (sndEs hc es c _ hf hs) (tbl_mem (hf.1 ▸ hm)) hm hf.2.2) fun _ _ => rfl
  | .isinst a t, c, x, hf, h => by
    apply onCallN_elim h; clear h; intro y p xs q h
    apply two_elim h; clear h; intro z n h
    apply onName_elim h; clear h; intro u p' h
    · apply and5_elim h; clear h; intro hg hz ha ht hp
      exact both (fun {A env lay Sys base st s} F => se_isi F hg hz (sndE hc a c _ hf ha).1 ht (tyNames hp).1 (tyNames hp).2) fun _ _ => rfl
  | .len a, c, x, hf, h => by
    apply onCallN_elim h; clear h; intro y p xs q h
    apply one_elim h; clear h; intro z h
    · apply and3_elim h; clear h; intro hg hz ha
      exact both (fun {A env lay Sys base st s} F => se_len F hg hz (sndE hc a c _ hf ha).1) fun _ _ => rfl
  | .sum a, c, x, hf, h => by
    apply onCallN_elim h; clear h; intro y p xs q h
    apply one_elim h; clear h; intro z h
    apply and3_elim h; clear h; intro hg hz ha
    exact both (fun {A env lay Sys base st s} F => se_sum F hg hz (sndE hc a c _ hf ha).1) fun _ _ => rfl
  | .max2 a b, c, x, hf, h => by
    apply onCallN_elim h; clear h; intro y p xs q h
    apply two_elim h; clear h; intro z u h
    apply and5_elim h; clear h; intro hg hz hu ha hb
    exact both (fun {A env lay Sys base st s} F => se_max2 F hg hz hu (sndE hc a c _ hf ha).1 (sndE hc b c _ hf hb).1) fun _ _ => rfl
  | .min2 a b, c, x, hf, h => by
    apply onCallN_elim h; clear h; intro y p xs q h
    apply two_elim h; clear h; intro z u h
    apply and5_elim h; clear h; intro hg hz hu ha hb
    exact both (fun {A env lay Sys base st s} F => se_min2 F hg hz hu (sndE hc a c _ hf ha).1 (sndE hc b c _ hf hb).1) fun _ _ => rfl
  | .maxl a, c, x, hf, h => ff h
  | .maxd a b, c, x, hf, h => by
    apply onCall_elim h; clear h; intro g xs ks q h
    apply one_elim h; clear h; intro z h
    apply one_elim h; clear h; intro kw h
    apply onName_elim h; clear h; intro y p h
    obtain ⟨ka, u, kp⟩ := kw
    apply and5_elim h; clear h; intro hg hz e2_ ha hb
    try simp only [decide_eq_true_eq] at hg
    try simp only [decide_eq_true_eq] at hz
    try simp only [decide_eq_true_eq] at e2_
    try simp only [decide_eq_true_eq] at ha
    try simp only [decide_eq_true_eq] at hb
    subst e2_
    exact both (fun {A env lay Sys base st s} F => se_maxd F hg hz rfl (sndE hc a c _ hf ha).1 (sndE hc b c _ hf hb).1) fun _ _ => rfl
  | .strOf a, c, x, hf, h => ff h
  | .intOf a, c, x, hf, h => by
    apply onCallN_elim h; clear h; intro y p xs q h
    apply one_elim h; clear h; intro z h
    apply and3_elim h; clear h; intro hg hz ha
    exact both (fun {A env lay Sys base st s} F => se_int F hg hz (sndE hc a c _ hf ha).1) fun _ _ => rfl
  | .tupOf a, c, x, hf, h => ff h
  | .listOf it, c, x, hf, h => by
    apply onCallN_elim h; clear h; intro y p xs q h
    apply one_elim h; clear h; intro z h
    · apply and5_elim h; clear h; intro hg hz hl hi hco
      try simp only [Bool.not_eq_true'] at hg
      try simp only [Bool.not_eq_true'] at hz
      try simp only [Bool.not_eq_true'] at hl
      try simp only [Bool.not_eq_true'] at hi
      try simp only [Bool.not_eq_true'] at hco
      exact both (fun {A env lay Sys base st s} F => (sndI hc it c _ hf hi).2 hl hco F hg hz) fun _ _ => rfl
  | .join sp a, c, x, hf, h => by
    apply onCall_elim h; clear h; intro g xs ks pos h
    apply and2_elim h; clear h; intro hks h
    apply one_elim h; clear h; intro z h
    apply onAttr_elim h; clear h; intro o n ap h
    apply and6_elim h; clear h; intro e0_ hz hl hs hst ha
    try simp only [decide_eq_true_eq] at e0_
    try simp only [decide_eq_true_eq] at hz
    try simp only [decide_eq_true_eq] at hl
    try simp only [decide_eq_true_eq] at hs
    try simp only [decide_eq_true_eq] at hst
    try simp only [decide_eq_true_eq] at ha
    subst e0_
    cases ks with
    | cons => exact ff hks
    | nil =>
    cases sp with
    | str u =>
      apply onConst_elim hs; clear hs; intro v kk pp hs
      apply and3_elim hs; clear hs; intro e0_ h1 h2
      try simp only [decide_eq_true_eq] at e0_
      try simp only [decide_eq_true_eq] at h1
      try simp only [decide_eq_true_eq] at h2
      subst e0_
      have ho : SOk u := ⟨h1, fun c hc => by
        have := h2
        rw [← Array.all_toList, List.all_eq_true] at this
        simpa using this c hc⟩
      exact both (fun {A env lay Sys base st s} F => se_join F hl ho hz (sndE hc a c _ hf ha).1) fun _ _ => rfl
    | _ => exact ff hst
  | .get a b e, c, x, hf, h => ff h
  | .dict0, c, x, hf, h => ff h
  | .isexc a t, c, x, hf, h => ff h
  | .only a, c, x, hf, h => ff h
  | .attr a n, c, x, hf, h => by
    apply onAttr_elim h; clear h; intro o m p h
    apply and2_elim h; clear h; intro h h3
    apply and2_elim h; clear h; intro h1 h2
    cases of_decide_eq_true h1
    exact both (fun {A env lay Sys base st s} F => se_attr F (sndE hc a c _ hf h3).1 h2) fun _ _ => rfl
  | .new f es, c, x, hf, h => by
    apply onCallN_elim h; clear h; intro y p xs q h
    apply and2_elim h; clear h; intro h h3
    apply and2_elim h; clear h; intro h1 h2
    obtain ⟨z, r, rfl⟩ := some1_inv h1
    exact both (fun {A env lay Sys base st s} F => se_new F h2 (sndEs hc es c _ hf h3)) fun _ _ => rfl
  | .comp elt t it, c, x, hf, h => by
    apply onLC_elim h; clear h; intro y gs sc p h
    apply one_elim h; clear h; intro g h
    apply and2_elim h; clear h; intro h0 h
    apply and2_elim h0; clear h0; intro hz h0
    obtain ⟨tg, iter, ifs, ias⟩ := g
    have e0 := of_decide_eq_true h0
    simp only at hz e0 h
    cases ifs with
    | cons => exact ff hz
    | nil =>
    subst e0
    split at h
    · rename_i xs hx
      have hf' : (inner c xs sc.names).fns = G.tbl.map (·.1) ∧ (inner c xs sc.names).xs = G.xs ∧ (inner c xs sc.names).hots = G.hots := hf
      apply and7_elim h; clear h; intro h1 h2 h3 h4 h0 h5 h6
      try simp only [Bool.not_eq_true'] at h1
      try simp only [Bool.not_eq_true'] at h2
      try simp only [Bool.not_eq_true'] at h3
      try simp only [Bool.not_eq_true'] at h4
      try simp only [Bool.not_eq_true'] at h0
      try simp only [Bool.not_eq_true'] at h5
      try simp only [Bool.not_eq_true'] at h6
      exact both (fun {A env lay Sys base st s} F => se_comp F ((sndI hc it c _ hf h5).1 (ezOk_walk h0)) h4 (ezOk_inv h0) (tableOk_eq h2) h1 h3 (sndE hc elt _ _ hf' h6).1) fun _ _ => rfl
    · cases h
  | .compIf elt t it cd, c, x, hf, h => ff h
theorem sndEs (hc : CallSnd G d) : ∀ (es : Es) (c : Sc) (xs : List Expr), c.fns = G.tbl.map (·.1) ∧ c.xs = G.xs ∧ c.hots = G.hots → chkEs c es xs = true → SEs G d c es xs
  | .nil, c, xs, hf, h => by
    cases xs with
    | nil => exact ses_nil
    | cons => exact ff h
  | .cons e es, c, xs, hf, h => by
    cases xs with
    | nil => exact ff h
    | cons x r =>
      apply and2_elim h; clear h; intro h h3
      apply and2_elim h; clear h; intro h1 h2
      exact ses_cons h1 (sndE hc e c _ hf h2).1 (sndEs hc es c _ hf h3)
theorem sndCh (hc : CallSnd G d) : ∀ (ch : Ch) (c : Sc) (ops : List CmpOp) (xs : List Expr), c.fns = G.tbl.map (·.1) ∧ c.xs = G.xs ∧ c.hots = G.hots → chkCh c ch ops xs = true → SCh G d c ch ops xs
  | .one op e, c, ops, xs, hf, h => by
    apply one_elim h; clear h; intro o h
    apply one_elim h; clear h; intro x h
    apply and2_elim h; clear h; intro h1 h2
    have e1 := of_decide_eq_true h1
    subst e1
    exact sch_one (sndE hc e c _ hf h2).1
  | .more op e ch, c, ops, xs, hf, h => by
    rcases ops with _ | ⟨o, ops⟩
    · exact ff h
    rcases xs with _ | ⟨x, xs⟩
    · exact ff h
    apply and2_elim h; clear h; intro h h3
    apply and2_elim h; clear h; intro h h2
    apply and2_elim h; clear h; intro h h1
    apply and2_elim h; clear h; intro ha hb
    have e1 := of_decide_eq_true h1
    subst e1
    obtain ⟨o2, ops, rfl⟩ := some1_inv ha
    obtain ⟨x2, xs, rfl⟩ := some1_inv hb
    exact sch_more (sndE hc e c _ hf h2).1 (sndCh hc ch c _ _ hf h3)
theorem sndI (hc : CallSnd G d) : ∀ (it : It) (c : Sc) (x : Expr), c.fns = G.tbl.map (·.1) ∧ c.xs = G.xs ∧ c.hots = G.hots → chkI c it x = true → (walk it = true → SI G d c it x) ∧ (listable it = true → c.hot = false → SL G d c it x)
  | .seq e, c, x, hf, h => by
    exact ⟨fun _ => si_seq (sndE hc e c _ hf h).1,
      fun _ hco => sl_seq hco (sndE hc e c _ hf h).1⟩
  | .rev e, c, x, hf, h => by
    apply onCallN_elim h; clear h; intro y p xs q h
    apply one_elim h; clear h; intro z h
    · apply and3_elim h; clear h; intro h1 h2 h3
      exact ⟨
        fun _ => si_rev h1 h2 (sndE hc e c _ hf h3).1,
        fun _ _ => sl_rev h1 h2 (sndE hc e c _ hf h3).1⟩
  | .range1 e, c, x, hf, h => by
    apply onCallN_elim h; clear h; intro y p xs q h
    apply one_elim h; clear h; intro z h
    · apply and3_elim h; clear h; intro h1 h2 h3
      exact ⟨fun _ => si_range1 h1 h2 (sndE hc e c _ hf h3).1,
        fun q => ff q⟩
  | .range2 a b, c, x, hf, h => ff h
  | .range3 a b e, c, x, hf, h => by
    apply onCallN_elim h; clear h; intro y p xs q h
    apply three_elim h; clear h; intro z u v h
    · apply and7_elim h; clear h; intro h1 h2 h3 h4 h5 h6 h7
      exact ⟨fun _ => si_range3 h1 h2 h3 h4 (sndE hc a c _ hf h5).1 (sndE hc b c _ hf h6).1 (sndE hc e c _ hf h7).1, fun q => ff q⟩
  | .enum e, c, x, hf, h => ff h
  | .keys e, c, x, hf, h => ff h
  | .zip a b, c, x, hf, h => ff h
end
end

end Mine
end

section
set_option autoImplicit false
namespace Mine
open PySem

/-- the tracked things grew by new ones -/
structure Gr (H H' : AH) (s : Shared) : Prop where
  stay : ∀ b, H b ≠ none → H' b = H b
  new : ∀ b, H' b ≠ none → H b = none → s.heap.get? b = none
theorem Gr.refl (H : AH) (s : Shared) : Gr H H s := ⟨fun _ _ => rfl, fun _ h e => absurd e h⟩
theorem Gr.trans {Z : Addr → Prop} {H H' H'' : AH} {s s' : Shared} (x : Gr H H' s) (y : Gr H' H'' s') (k : Kp Z s s') : Gr H H'' s where
  stay := fun b h => by
    have := x.stay b h
    rw [y.stay b (by rw [this]; exact h), this]
  new := fun b h e => by
    cases q : H' b with
    | none => exact fresh_keeps k (y.new b h q)
    | some o => exact x.new b (by rw [q]; simp) e
theorem upd_self (H : AH) (a : Nat) (o : AO) : H.upd a o a = some o := by simp [AH.upd]
theorem upd_other (H : AH) {a b : Nat} (o : AO) (h : b ≠ a) : H.upd a o b = H b := by simp [AH.upd, h]

theorem RV.grow {H H' : AH} {Sys Z : Addr → Prop} {s s' : Shared} {v : V} {x : Value} (zs : ∀ b, Z b → Sys b) (r : RV (NN H Sys) s.heap v x) (g : Gr H H' s) (k : HW Z s.heap s'.heap) : RV (NN H' Sys) s'.heap v x :=
  r.gen (fun b q => by
    rcases q with q | q
    · cases e : H b with
      | none => exact .inr (g.new b q e)
      | some o => exact .inl (.inl (by rw [e]; simp))
    · exact .inl (.inr q)) fun b o nb e => (k b o e).1 fun q => nb (.inr (zs b q))
/-- a new thing is tracked from now on -/
theorem Sim.track {hsh : HFn} {T : Heap → Prop} {lay : Nat → Option Place} {Sys Z : Addr → Prop} {base : Heap} {st : St} {s s' : Shared} {a : Addr} {o : AO} (S : Sim hsh T lay Sys Z base st s.heap) (k : HW Z s.heap s'.heap) (hf : s.heap.get? a = none) (ro : RO hsh (NN (st.H.upd a o) Sys) s'.heap a o) :
    Sim hsh T lay Sys Z base { st with H := st.H.upd a o } s'.heap := by
  have hfa : st.H a = none := S.fresh hf
  have g : Gr st.H (st.H.upd a o) s := ⟨fun b h => upd_other _ _ (fun e => h (e ▸ hfa)), fun b h e => by
    by_cases q : b = a
    · subst q; exact hf
    · rw [upd_other _ _ q] at h; exact absurd e h⟩
  have hN : ∀ b, NN (st.H.upd a o) Sys b → NN st.H Sys b ∨ s.heap.get? b = none := fun b q => by
    rcases q with q | q
    · cases e : st.H b with
      | none => exact .inr (g.new b q e)
      | some o => exact .inl (.inl (by rw [e]; simp))
    · exact .inl (.inr q)
  refine ⟨S.keep.trans k, S.zs, S.top, fun i v p a' b => ?_, fun i p a => (S.ok i p a).kz k, S.inj, fun i p h => ?_, fun b o' e => ?_, fun b h hB => ?_, (S.kz k).live, S.ent, fun b q => (upd_other _ _ fun e : b = a => S.live b q (by rw [e]; exact hf)).trans (S.dis b q)⟩
  · obtain ⟨val, x, y⟩ := S.vals i v p a' b
    exact ⟨val, x.kz k, y.grow S.zs g k⟩
  · have hs := S.sys i p h
    refine ⟨hs.1, hs.2.1, ?_⟩
    show st.H.upd a o p.addr = none
    rw [upd_other _ _ (fun e : p.addr = a => S.live _ hs.1 (by rw [e]; exact hf))]; exact hs.2.2
  · by_cases q : b = a
    · subst q
      have e : st.H.upd b o b = some o' := e
      rw [upd_self] at e; cases e; exact ro
    · have e : st.H.upd a o b = some o' := e
      rw [upd_other _ _ q] at e
      exact (S.objs b o' e).gen hN (fun b o nb e => (k b o e).1 fun q => nb (.inr (S.zs b q))) fun o e'' => (k b o e'').1 fun q => by rw [S.dis b (S.zs b q)] at e; cases e
  · by_cases q : b = a
    · subst q
      exact S.keep.ext hf
    · have h : st.H.upd a o b ≠ none := h
      rw [upd_other _ _ q] at h; exact S.own b h hB

theorem Sim.freshB {hsh : HFn} {T : Heap → Prop} {lay : Nat → Option Place} {Sys Z : Addr → Prop} {base : Heap} {st : St} {h : Heap} (S : Sim hsh T lay Sys Z base st h) {a : Addr} (e : h.get? a = none) : st.B a = none := by
  cases q : st.B a with
  | none => rfl
  | some o =>
    obtain ⟨ob, e'⟩ := S.ent a (by rw [q]; simp)
    rw [S.keep.ext e] at e'; cases e'

section
variable {G : PG} {d : Nat} {c : Sc} {A : Around} {env : Env} {lay : Nat → Option Place} {Sys : Addr → Prop} {base : Heap} {st : St} {s : Shared}

noncomputable abbrev SA (G : PG) (d : Nat) (c : Sc) (a : Mine.A) (x : Expr) : Prop :=
  ∀ {A : Around} {env : Env} {lay : Nat → Option Place} {Sys : Addr → Prop} {base : Heap} {st : St} {s : Shared}, Fx G d c A env lay Sys base st s →
    ∀ (Q : V → AH → Prop) (X : String → Prop) (K : Value → Shared → Prop) (E : Value → Shared → Prop), WA (G.cx d) a st Q X →
      (∀ v H' val s', Q v H' → Fx G d c A env lay Sys base { st with H := H' } s' → RV (NN H' Sys) s'.heap v val → Kp (FZ A Sys) s s' → Gr st.H H' s → K val s') → (∀ e s', Rz G.mg A Sys s X e s' → E e s') →
      wpAny (model G.prog G.w) A (eval x env) K E s

noncomputable abbrev SAs (G : PG) (d : Nat) (c : Sc) (as : As) (xs : List Expr) : Prop :=
  xs.all noStar = true ∧ ∀ {A : Around} {env : Env} {lay : Nat → Option Place} {Sys : Addr → Prop} {base : Heap} {st : St} {s : Shared}, Fx G d c A env lay Sys base st s →
    ∀ (pos : Pos) (Q : List V → AH → Prop) (X : String → Prop) (K : List Value → Shared → Prop) (E : Value → Shared → Prop), WAs (G.cx d) as st Q X →
      (∀ vs H' vals s', Q vs H' → Fx G d c A env lay Sys base { st with H := H' } s' → RVs (NN H' Sys) s'.heap vs vals → Kp (FZ A Sys) s s' → Gr st.H H' s → K vals s') → (∀ e s', Rz G.mg A Sys s X e s' → E e s') →
      wpAny (model G.prog G.w) A (spliced (backTo pos (starEach xs env))) K E s

theorem sa_pure {e : E} {x : Expr} (he : SE G d c e x) : SA G d c (.pure e) x := by
  intro A env lay Sys base st s F Q X K E hW hK hX
  simp only [wa_0, wa_1, wa_2, wa_3, wa_4, wa_5] at hW
  exact (he F).weak _ X _ E hW (fun v val s' q r k _ => hK v st.H val s' q (F.keeps k) r k (Gr.refl _ _)) hX
theorem sa_thaw {e : E} {x : Expr} (he : SE G d c e x) (hf : isFresh e = true) : SA G d c (.thaw e) x := by
  intro A env lay Sys base st s F Q X K E hW hK hX
  simp only [wa_0, wa_1, wa_2, wa_3, wa_4, wa_5] at hW
  refine he F _ X _ E hW (fun v val s' q r k fr => ?_) hX
  split at q
  · rename_i vs
    cases r with
    | lst h1 h2 h3 h4 =>
      rename_i a xs n
      obtain ⟨hfa, hv⟩ := fr hf a rfl
      obtain ⟨ys, m, hl, hz, hr⟩ := hv vs rfl
      have S' := F.sim.track (o := .list vs) k.hw hfa (.list hl hz (hr.less fun b q => by
        rcases q with q | q
        · by_cases e : b = a
          · exact .inr e
          · rw [upd_other _ _ e] at q; exact .inl (.inl q)
        · exact .inl (.inr q)))
      refine hK _ _ _ _ (q a ⟨F.sim.fresh hfa, F.sim.freshB hfa⟩) ⟨⟨F.rm, F.eo, F.us, S', F.own, F.cold⟩, F.fr.kz k.hw, F.hd.imp id fun q => q.kz k.hw⟩ (.ref a) k ⟨fun b h => upd_other _ _ (fun e => h (e ▸ F.sim.fresh hfa)), fun b h e => ?_⟩
      by_cases q : b = a
      · subst q; exact hfa
      · rw [upd_other _ _ q] at h; exact absurd e h
  · exact q.elim
theorem sa_new {cn : String} {es : Es} {y : Str} {z : Expr} {xs : List Expr} {p pos : Pos} (hg : isGlob c y cn = true) (h : SEs G d c es (z :: xs)) : SA G d c (.new cn es) (.Call (.Name y p) (z :: xs) [] pos) := by
  intro A env lay Sys base st s F Q X K E hW hK hX
  simp only [wa_0, wa_1, wa_2, wa_3, wa_4, wa_5] at hW
  split at hW
  · rename_i k n fs hlk
    refine ev_new F hg h hlk hW (fun vs x dx ys h₁ s' q k₁ fx fd hne i o r fd₁ kk => ?_) hX
    have hfd := F.sim.fresh fd
    have hu : ∀ b, (st.H.upd dx (.inst k (fs.map (·.1)) (fs.map fun f => iniV vs f.2))) b ≠ none → st.H b = none → s.heap.get? b = none := fun b hb e => by
      by_cases q : b = dx
      · rw [q]; exact fd
      · rw [upd_other _ _ q] at hb; exact absurd e hb
    have g : Gr st.H (st.H.upd dx (.inst k (fs.map (·.1)) (fs.map fun f => iniV vs f.2))) s := ⟨fun b h => upd_other _ _ (fun e => h (e ▸ hfd)), hu⟩
    have nx : ¬ NN (st.H.upd dx (.inst k (fs.map (·.1)) (fs.map fun f => iniV vs f.2))) Sys x := fun q => by
      rcases q with q | q
      · rw [upd_other _ _ hne] at q; exact q (F.sim.fresh fx)
      · exact F.sim.live x q fx
    -- the parts stood ahead
    have r' : RVs (NN (st.H.upd dx (.inst k (fs.map (·.1)) (fs.map fun f => iniV vs f.2))) Sys) s'.heap (fs.map fun f => iniV vs f.2) ys := r.gen (fun b q => by
      rcases q with q | q
      · by_cases e : b = dx
        · exact .inr (e ▸ fd₁)
        · rw [upd_other _ _ e] at q; exact .inl (.inl q)
      · exact .inl (.inr q)) fun b o _ e => kk b o e
    have S' := F.sim.track (s := s) (s' := s') (o := .inst k (fs.map (·.1)) (fs.map fun f => iniV vs f.2)) k₁.hw fd (.inst o r')
    exact hK _ _ _ _ (q dx ⟨hfd, F.sim.freshB fd⟩) ⟨⟨F.rm, F.eo, F.us, S', F.own, F.cold⟩, F.fr.kz k₁.hw, F.hd.imp id fun q => q.kz k₁.hw⟩ (.iref nx i) k₁ g
  · exact hW.elim
theorem sas_nil : SAs G d c .nil [] :=
  ⟨rfl, fun {A env lay Sys base st s} F pos Q X K E hW hK _ => wpAny_items_nil (hK [] st.H [] s (by simpa [was_0, was_1] using hW) F .nil (Kp.refl s) (Gr.refl _ _))⟩
theorem sas_cons {a : Mine.A} {as : As} {x : Expr} {xs : List Expr} (hn : noStar x = true) (ha : SA G d c a x) (has : SAs G d c as xs) : SAs G d c (.cons a as) (x :: xs) := by
  refine ⟨by simp [hn, has.1], fun {A env lay Sys base st s} F pos Q X K E hW hK hX => ?_⟩
  simp only [was_0, was_1] at hW
  refine wpAny_items_cons (ha F _ X _ E hW (fun v H' va s₁ h₁ F₁ r₁ k₁ g₁ => ?_) hX) (starEach_cons hn)
  exact has.2 F₁ pos _ X _ E h₁ (fun vs H'' vals s' q F' r k g => hK (v :: vs) H'' (va :: vals) s' q F' (.cons (r₁.grow F.sim.zs g k.hw) r) (k₁.trans k) (g₁.trans g k₁)) fun e s' q => hX e s' (Rz.trans k₁ q)
theorem sa_list {as : As} {xs : List Expr} {pos : Pos} (h : SAs G d c as xs) : SA G d c (.list as) (.List xs pos) := by
  intro A env lay Sys base st s F Q X K E hW hK hX
  simp only [wa_0, wa_1, wa_2, wa_3, wa_4, wa_5] at hW
  refine wpAny_List (h.2 F pos _ X _ E hW (fun vs H' vals s₁ h₁ F₁ r₁ k₁ g₁ => ?_) hX)
  have hl := r₁.length
  have hf := fresh_size s₁.heap
  refine ⟨by rw [← hl]; exact h₁.1, ?_⟩
  have hu : ∀ b, (H'.upd s₁.heap.objs.size (.list vs)) b ≠ none → H' b = none → s₁.heap.get? b = none := fun b hb e => by
    by_cases q : b = s₁.heap.objs.size
    · rw [q]; exact hf
    · rw [upd_other _ _ q] at hb; exact absurd e hb
  have hfa : H' s₁.heap.objs.size = none := F₁.sim.fresh hf
  have r' : RVs (NN H' Sys) s₁.heap vs vals.toArray.toList := by simpa using r₁
  have S' := F₁.sim.track (s := s₁) (s' := { s₁ with heap := s₁.heap.push { cls := .type "list", data := .seq vals.toArray } }) (o := .list vs) (.of (HK.push _ _)) hf
    (.list (IsL.new _ _) (by simpa [← hl] using h₁.1) (r'.gen (fun b q => by
        rcases q with q | q
        · cases e : H' b with
          | none => exact .inr (hu b q e)
          | some o => exact .inl (.inl (by rw [e]; simp))
        · exact .inl (.inr q)) (fun b o _ e => HK.push _ _ b o e)))
  have g : Gr H' (H'.upd s₁.heap.objs.size (.list vs)) s₁ := ⟨fun b h => upd_other _ _ (fun e => h (e ▸ hfa)), hu⟩
  exact hK _ _ _ _ (h₁.2 _ hfa (F₁.sim.freshB hf)) ⟨⟨F.rm, F.eo, F.us, S', F.own, F.cold⟩, F₁.fr.kz (.of (Z := Sys) (HK.push _ _)), F₁.hd.imp id fun q => q.kz (.of (HK.push _ _))⟩ (.ref _) (k₁.trans (Kp.ofH (HK.push _ _))) (g₁.trans g k₁)
end

section
variable {G : PG} {d : Nat}
mutual
theorem sndA (hc : CallSnd G d) : ∀ (a : A) (c : Sc) (x : Expr), c.fns = G.tbl.map (·.1) ∧ c.xs = G.xs ∧ c.hots = G.hots → chkA c a x = true → SA G d c a x
  | .pure e, c, x, hf, h => sa_pure (sndE hc e c x hf h).1
  | .thaw e, c, x, hf, h => by
    replace h := (Bool.and_eq_true _ _).mp h
    exact sa_thaw (sndE hc e c x hf h.2).1 h.1
  | .list as, c, x, hf, h => by
    apply onList_elim h; clear h; intro xs p h
    exact sa_list (sndAs hc as c _ hf h)
  | .dict, c, x, hf, h => ff h
  | .new f es, c, x, hf, h => by
    apply onCallN_elim h; clear h; intro y p xs q h
    apply and2_elim h; clear h; intro h h3
    apply and2_elim h; clear h; intro h1 h2
    obtain ⟨z, r, rfl⟩ := some1_inv h1
    exact sa_new h2 (sndEs hc es c _ hf h3)
  | .callO f es, c, x, hf, h => ff h
theorem sndAs (hc : CallSnd G d) : ∀ (as : As) (c : Sc) (xs : List Expr), c.fns = G.tbl.map (·.1) ∧ c.xs = G.xs ∧ c.hots = G.hots → chkAs c as xs = true → SAs G d c as xs
  | .nil, c, xs, hf, h => by
    cases xs with
    | nil => exact sas_nil
    | cons => exact ff h
  | .cons a as, c, xs, hf, h => by
    cases xs with
    | nil => exact ff h
    | cons x r =>
      apply and2_elim h; clear h; intro h h3
      apply and2_elim h; clear h; intro h1 h2
      exact sas_cons h1 (sndA hc a c _ hf h2) (sndAs hc as c _ hf h3)
end
end

end Mine
end

section
set_option autoImplicit false
namespace Mine
open PySem

/-- what a statement leaves as it was -/
structure Ps (q : Bool) (lay : Nat → Option Place) (Z : Addr → Prop) (st : St) (s : Shared) (st' : St) (s' : Shared) : Prop where
  sh : ∃ h' tk, s' = { s with heap := h', toks := tk }
  old : ∀ b o, st.H b = none → (∀ i p, lay i = some p → b ≠ p.addr) → s.heap.get? b = some o → (¬ Z b → s'.heap.get? b = some o) ∧ ∃ sl, s'.heap.get? b = some { o with slots := sl }
  new : ∀ b, st'.H b ≠ none → st.H b = none → s.heap.get? b = none
  stay : ∀ b, st.H b ≠ none → st'.H b ≠ none
  B : st'.B = st.B
  len : st'.ρ.length = st.ρ.length
  ext : ∀ b, s.heap.get? b ≠ none → s'.heap.get? b ≠ none
  qt : q = true → ∀ b o, (∀ i p, lay i = some p → b ≠ p.addr) → s.heap.get? b = some o → ¬ Z b → s'.heap.get? b = some o
section
variable {Z : Addr → Prop}
theorem Ps.weak {q q' : Bool} {lay : Nat → Option Place} {st st' : St} {s s' : Shared} (x : Ps q lay Z st s st' s') (h : q' = true → q = true) : Ps q' lay Z st s st' s' := ⟨x.sh, x.old, x.new, x.stay, x.B, x.len, x.ext, fun e => x.qt (h e)⟩
theorem Ps.refl {q : Bool} {lay : Nat → Option Place} {st : St} {s : Shared} : Ps q lay Z st s st s := ⟨⟨s.heap, s.toks, rfl⟩, fun _ o _ _ e => ⟨fun _ => e, o.slots, e⟩, fun _ h e => absurd e h, fun _ h => h, rfl, rfl, fun _ h => h, fun _ _ _ _ e _ => e⟩
theorem Ps.trans {q : Bool} {lay : Nat → Option Place} {st st₁ st₂ : St} {s s₁ s₂ : Shared} (x : Ps q lay Z st s st₁ s₁) (y : Ps q lay Z st₁ s₁ st₂ s₂) : Ps q lay Z st s st₂ s₂ where
  sh := by
    obtain ⟨h1, t1, rfl⟩ := x.sh
    obtain ⟨h2, t2, rfl⟩ := y.sh
    exact ⟨h2, t2, rfl⟩
  old := fun b o h hp e => by
    have h1 : st₁.H b = none := by
      cases q : st₁.H b with
      | none => rfl
      | some ob => rw [x.new b (by rw [q]; simp) h] at e; cases e
    refine ⟨fun n => (y.old b o h1 hp ((x.old b o h hp e).1 n)).1 n, ?_⟩
    obtain ⟨_, e1⟩ := (x.old b o h hp e).2
    obtain ⟨sl, e2⟩ := (y.old b _ h1 hp e1).2
    exact ⟨sl, e2⟩
  new := fun b h e => by
    cases q : st₁.H b with
    | some o => exact x.new b (by rw [q]; simp) e
    | none =>
      cases q' : s.heap.get? b with
      | none => rfl
      | some o => exact absurd (y.new b h q) (x.ext b (by rw [q']; simp))
  stay := fun b h => y.stay b (x.stay b h)
  B := y.B.trans x.B
  len := y.len.trans x.len
  ext := fun b h => y.ext b (x.ext b h)
  qt := fun e b o hp h n => y.qt e b o hp (x.qt e b o hp h n) n
theorem Ps.ofK {q : Bool} {lay : Nat → Option Place} {st : St} {H' : AH} {s s' : Shared} (k : Kp Z s s') (g : Gr st.H H' s) : Ps q lay Z st s { st with H := H' } s' where
  sh := let ⟨h', tk, e, _⟩ := k; ⟨h', tk, e⟩
  old := fun b o _ _ e => k.hw b o e
  new := g.new
  stay := fun b h => by show H' b ≠ none; rw [g.stay b h]; exact h
  B := rfl
  len := rfl
  ext := fun b h e => h (k.hw.ext e)
  qt := fun _ b o _ e n => (k.hw b o e).1 n
theorem Ps.ofKp {q : Bool} {lay : Nat → Option Place} {st : St} {s s' : Shared} (k : Kp Z s s') : Ps q lay Z st s st s' := Ps.ofK k (Gr.refl _ _)
theorem Ps.ofTc {q : Bool} {hsh : HFn} {T : Heap → Prop} {lay : Nat → Option Place} {Sys Z' : Addr → Prop} {base : Heap} {st : St} {ρ' : List (Option V)} {is : List Nat} {s : Shared} {h' : Heap} {tk : Nat} (S : Sim hsh T lay Sys Z' base { st with ρ := ρ' } h') (t : Tc is lay s.heap h') (hl : ρ'.length = st.ρ.length) :
    Ps q lay Z st s { st with ρ := ρ' } { s with heap := h', toks := tk } where
  sh := ⟨h', tk, rfl⟩
  old := fun b o _ hp e => have e' := t b o (fun i _ p hi => hp i p hi) e; ⟨fun _ => e', o.slots, e'⟩
  new := fun b h e => absurd e h
  stay := fun _ h => h
  B := rfl
  len := hl
  ext := fun b h e => by
    cases q : s.heap.get? b with
    | none => exact h q
    | some o =>
      by_cases hp : ∃ i p, lay i = some p ∧ b = p.addr
      · obtain ⟨i, p, hi, rfl⟩ := hp
        exact S.live _ (S.sys i p hi).1 e
      · have := t b o (fun i _ p hi hb => hp ⟨i, p, hi, hb⟩) q
        rw [show ({ s with heap := h', toks := tk } : Shared).heap = h' from rfl, this] at e; cases e
  qt := fun _ b o hp e _ => t b o (fun i _ p hi => hp i p hi) e
end
/-- the frames stand behind a statement -/
theorem FrOk.ps {q : Bool} {A : Around} {hsh : HFn} {T : Heap → Prop} {lay : Nat → Option Place} {Sys Z Z' : Addr → Prop} {base : Heap} {st st' : St} {s s' : Shared} (f : FrOk A Sys s.heap) (S : Sim hsh T lay Sys Z base st s.heap) (S' : Sim hsh T lay Sys Z base st' s'.heap) (p : Ps q lay Z' st s st' s') : FrOk A Sys s'.heap := by
  obtain ⟨_, l, e, f⟩ := f
  refine ⟨S'.live, l, e, fun v hv => ?_⟩
  obtain ⟨g1, L, o, g2, g3, g4, g5⟩ := f v hv
  by_cases hp : ∃ i pl, lay i = some pl ∧ L = pl.addr
  · obtain ⟨i, pl, hi, rfl⟩ := hp
    have hk := S'.ok i pl hi
    cases pl with
    | loc L x => obtain ⟨m, o', es, ep, e', d, _⟩ := hk; exact ⟨g1, L, o', g2, g3, e', fun vs q => by rw [d] at q; cases q⟩
    | cell c => obtain ⟨v', o', e', d⟩ := hk; exact ⟨g1, c, o', g2, g3, e', fun vs q => by rw [d] at q; cases q⟩
  · obtain ⟨sl, e'⟩ := (p.old L o (S.dis L g3) (fun i pl hi hb => hp ⟨i, pl, hi, hb⟩) g4).2
    exact ⟨g1, L, _, g2, g3, e', g5⟩

theorem HdOk.ps {q : Bool} {A : Around} {hsh : HFn} {T : Heap → Prop} {lay : Nat → Option Place} {Sys Z : Addr → Prop} {base : Heap} {st st' : St} {s s' : Shared} (f : HdOk A Sys s.heap) (S : Sim hsh T lay Sys Z base st s.heap) (p : Ps q lay (FZ A Sys) st s st' s') : HdOk A Sys s'.heap := f
theorem RV.ps {q : Bool} {hsh : HFn} {T : Heap → Prop} {lay : Nat → Option Place} {Sys Z : Addr → Prop} {base : Heap} {st st' : St} {s s' : Shared} {v : V} {x : Value} (r : RV (NN st.H Sys) s.heap v x) (S : Sim hsh T lay Sys Z base st s.heap) (p : Ps q lay Z st s st' s') : RV (NN st'.H Sys) s'.heap v x :=
  r.gen (fun b q => by
    rcases q with q | q
    · cases e : st.H b with
      | none => exact .inr (p.new b q e)
      | some o => exact .inl (.inl (by rw [e]; simp))
    · exact .inl (.inr q)) fun b o nb e => (p.old b o (by
      cases q : st.H b with
      | none => rfl
      | some o => exact absurd (.inl (by rw [q]; simp)) nb) (fun i pl hp hb => nb (.inr (hb ▸ (S.sys i pl hp).1))) e).1 fun q => nb (.inr (S.zs b q))

inductive FlR (N : Addr → Prop) (h : Heap) : Fl → Flow → Prop
  | next : FlR N h .next .next
  | brk : FlR N h .brk .brk
  | cont : FlR N h .cont .cont
  | ret {v val} : RV N h v val → FlR N h (.ret v) (.ret val)

/-- how a raise leaves a suite -/
inductive RzS (mg : Str → Option Value) (A : Around) (Sys : Addr → Prop) (base : Heap) (s : Shared) (X : String → St → Prop) (e : Value) (s' : Shared) : Prop
theorem RzS.trans {mg : Str → Option Value} {A : Around} {Sys : Addr → Prop} {base : Heap} {s s₁ s' : Shared} {X : String → St → Prop} {e : Value} (r : RzS mg A Sys base s₁ X e s') (k : ∃ h' tk, s₁ = { s with heap := h', toks := tk }) : RzS mg A Sys base s X e s' := by cases r
theorem Rz.toS {G : PG} {d : Nat} {c : Sc} {A : Around} {env : Env} {lay : Nat → Option Place} {Sys : Addr → Prop} {base : Heap} {st st' : St} {s s' : Shared} {X : String → St → Prop} {e : Value} (r : Rz G.mg A Sys s (fun x => X x st') e s') (F : Fx G d c A env lay Sys base st s) : RzS G.mg A Sys base s X e s' := by cases r
theorem RzS.pass {G : PG} {d : Nat} {c : Sc} {A : Around} {env : Env} {lay : Nat → Option Place} {Sys : Addr → Prop} {base : Heap} {st : St} {s s₀ s' : Shared} {X : String → St → Prop} {e : Value} {E : Value → Shared → Prop} (r : RzS G.mg A Sys base s X e s') (F : Fx G d c A env lay Sys base st s₀) (hX : ∀ e s', RzS G.mg A Sys base s X e s' → E e s') :
    notedBy (model G.prog G.w) A env (fun e s' => cameBackBy (model G.prog G.w) A env E e s') e s' := by cases r

section
variable {G : PG} {d : Nat} {c : Sc} {A : Around} {env : Env} {lay : Nat → Option Place} {Sys : Addr → Prop} {base : Heap} {st : St} {s : Shared}

noncomputable abbrev SS (G : PG) (d : Nat) (c : Sc) (m : S) (x : Stmt) : Prop :=
  ∀ {A : Around} {env : Env} {lay : Nat → Option Place} {Sys : Addr → Prop} {base : Heap} {st : St} {s : Shared}, Fx G d c A env lay Sys base st s →
    ∀ (Q : Fl → St → Prop) (X : String → St → Prop) (K : Flow → Shared → Prop) (E : Value → Shared → Prop), WS (G.cx d) m st Q X →
      (∀ f fl st' s', Q f st' → FlR (NN st'.H Sys) s'.heap f fl → Fx0 G d c A env lay Sys base st' s' → Ps (quietS m) lay (FZ A Sys) st s st' s' → K fl s') → (∀ e s', RzS G.mg A Sys base s X e s' → E e s') →
      wpAny (model G.prog G.w) A (exec x env) K E s
noncomputable abbrev SB (G : PG) (d : Nat) (c : Sc) (b : Bl) (xs : List Stmt) : Prop :=
  ∀ {A : Around} {env : Env} {lay : Nat → Option Place} {Sys : Addr → Prop} {base : Heap} {st : St} {s : Shared}, Fx G d c A env lay Sys base st s →
    ∀ (Q : Fl → St → Prop) (X : String → St → Prop) (K : Flow → Shared → Prop) (E : Value → Shared → Prop), WB (G.cx d) b st Q X →
      (∀ f fl st' s', Q f st' → FlR (NN st'.H Sys) s'.heap f fl → Fx0 G d c A env lay Sys base st' s' → Ps (quietB b) lay (FZ A Sys) st s st' s' → K fl s') → (∀ e s', RzS G.mg A Sys base s X e s' → E e s') →
      wpAny (model G.prog G.w) A (execs xs env) K E s

theorem Fx.ps {q : Bool} {st' : St} {s' : Shared} (F : Fx G d c A env lay Sys base st s) (F' : Fx0 G d c A env lay Sys base st' s') (p : Ps q lay (FZ A Sys) st s st' s') : Fx G d c A env lay Sys base st' s' := ⟨F', F.fr.ps F.sim F'.sim p, F.hd.imp id fun q => q.ps F.sim p⟩
theorem sb_nil : SB G d c .nil [] := by
  intro A env lay Sys base st s F Q X K E hW hK hX
  simp only [wb_0, wb_1] at hW
  exact wpAny_execs_nil (hK _ _ st s hW .next F.toFx0 Ps.refl)
theorem and_l {a b : Bool} (h : (a && b) = true) : a = true := ((Bool.and_eq_true _ _).mp h).1
theorem and_r {a b : Bool} (h : (a && b) = true) : b = true := ((Bool.and_eq_true _ _).mp h).2
theorem sb_cons {m : S} {b : Bl} {x : Stmt} {xs : List Stmt} (hm : SS G d c m x) (hb : SB G d c b xs) : SB G d c (.cons m b) (x :: xs) := by
  intro A env lay Sys base st s F Q X K E hW hK hX
  simp only [wb_0, wb_1] at hW
  refine wpAny_execs_cons (hm F _ X _ E hW (fun f fl st' s' q r F' p => ?_) hX)
  cases r with
  | next => exact hb (F.ps F' p) Q X K E q (fun f fl st'' s'' q r F'' p' => hK f fl st'' s'' q r F'' ((p.weak and_l).trans (p'.weak and_r))) fun e s' q => hX e s' (q.trans p.sh)
  | brk => exact hK _ _ st' s' q .brk F' (p.weak and_l)
  | cont => exact hK _ _ st' s' q .cont F' (p.weak and_l)
  | ret r => exact hK _ _ st' s' q (.ret r) F' (p.weak and_l)

theorem swaps_none {x : Expr} {t : Option Expr} {l : Nat} (h : isComp x = false) : swapsWith x t l env = pure false := by
  cases x <;> first | rfl | exact nomatch h

theorem ss_expr {e : E} {y : Expr} {pos : Pos} (he : SE G d c e y) (hc : isComp y = false) : SS G d c (.expr e) (.Expr y pos) := by
  intro A env lay Sys base st s F Q X K E hW hK hX
  simp only [ws_0, ws_1, ws_2, ws_3, ws_4, ws_5, ws_6, ws_7, ws_8, ws_9, ws_10, ws_11, ws_12, ws_13, ws_14, ws_15, ws_16, pk_ret, pk_next] at hW
  refine wpAny_Expr_any ((he F).weak _ _ _ E hW (fun v val s' q r k _ => hK .next .next st s' q .next (F.keeps k).toFx0 (Ps.ofKp k)) fun e s' q => hX e s' (q.toS F)) (by simp [interactive, F.eo.kind]) (swaps_none hc)

theorem ss_ret {e : E} {y : Expr} {pos : Pos} (he : SE G d c e y) : SS G d c (.ret e) (.Return (some y) pos) := by
  intro A env lay Sys base st s F Q X K E hW hK hX
  simp only [ws_0, ws_1, ws_2, ws_3, ws_4, ws_5, ws_6, ws_7, ws_8, ws_9, ws_10, ws_11, ws_12, ws_13, ws_14, ws_15, ws_16, pk_ret, pk_next] at hW
  exact wpAny_Return_some ((he F).weak _ _ _ E hW (fun v val s' q r k _ => hK (.ret v) (.ret val) st s' q (.ret r) (F.keeps k).toFx0 (Ps.ofKp k)) fun e s' q => hX e s' (q.toS F))

theorem ss_ite {t : E} {a b : Bl} {y : Expr} {bs os : List Stmt} {pos : Pos} (ht : ST G d c t y) (ha : SB G d c a bs) (hb : SB G d c b os) : SS G d c (.ite t a b) (.If y bs os pos) := by
  intro A env lay Sys base st s F Q X K E hW hK hX
  simp only [ws_0, ws_1, ws_2, ws_3, ws_4, ws_5, ws_6, ws_7, ws_8, ws_9, ws_10, ws_11, ws_12, ws_13, ws_14, ws_15, ws_16, pk_ret, pk_next] at hW
  refine wpAny_If (ht F (fun r => if r then WB (G.cx d) a st Q X else WB (G.cx d) b st Q X) _ _ E (WE_cg hW fun u => ?_) (fun r s₁ q k => ?_) fun e s' q => hX e s' (q.toS F))
  · cases truthV st.H u with
    | none => rfl
    | some r => cases r <;> rfl
  · cases r
    · simp only [Bool.false_eq_true, if_false] at q ⊢
      exact hb (F.keeps k) Q X K E q (fun f fl st' s' q' r' F' p => hK f fl st' s' q' r' F' ((Ps.ofKp k).trans (p.weak and_r))) fun e s' q => hX e s' (q.trans (let ⟨h', tk, e, _⟩ := k; ⟨h', tk, e⟩))
    · simp only [if_true] at q ⊢
      exact ha (F.keeps k) Q X K E q (fun f fl st' s' q' r' F' p => hK f fl st' s' q' r' F' ((Ps.ofKp k).trans (p.weak and_l))) fun e s' q => hX e s' (q.trans (let ⟨h', tk, e, _⟩ := k; ⟨h', tk, e⟩))

theorem ss_while {t : E} {b : Bl} {y : Expr} {bs : List Stmt} {pos : Pos} (ht : ST G d c t y) (hb : SB G d c b bs) : SS G d c (.while t b) (.While y bs [] pos) := by
  intro A env lay Sys base st s F Q X K E hW hK hX
  simp only [ws_0, ws_1, ws_2, ws_3, ws_4, ws_5, ws_6, ws_7, ws_8, ws_9, ws_10, ws_11, ws_12, ws_13, ws_14, ws_15, ws_16, pk_ret, pk_next] at hW
  obtain ⟨n, hn⟩ := hW
  refine wpAny_While (codeAny_whileLoop (fun n s' => ∃ st', whileN (fun st' K => WE (G.cx d) t st' (fun u => match truthV st'.H u with
      | some r => K r
      | none => False) (fun x => X x st')) (fun st' K => WB (G.cx d) b st' K X) Q n st' ∧ Fx G d c A env lay Sys base st' s' ∧ Ps false lay (FZ A Sys) st s st' s') ?_ n ⟨st, hn, F, Ps.refl⟩)
  rintro n s' ⟨st', hw, F', p⟩
  cases n with
  | zero => exact hw.elim
  | succ n =>
    simp only [wn_zero, wn_succ] at hw
    refine ht F' _ _ _ _ hw (fun r s₁ q k => ?_) fun e s'' q => RzS.pass ((q.toS F').trans p.sh) F hX
    cases r
    · simp only [Bool.false_eq_true, if_false] at q ⊢
      exact wpAny_execs_nil (hK .next .next st' s₁ q .next (F'.keeps k).toFx0 (p.trans (Ps.ofKp k)))
    · simp only [if_true] at q ⊢
      refine hb (F'.keeps k) _ X _ _ q (fun f fl st'' s'' q' r' F'' p' => ?_) fun e s'' q => RzS.pass (q.trans (p.trans (Ps.ofKp k)).sh) F hX
      have pp := (p.trans (Ps.ofKp k)).trans (p'.weak nofun)
      cases r' with
      | next => exact ⟨n, Nat.lt_succ_self n, st'', q', (F'.keeps k).ps F'' p', pp⟩
      | cont => exact ⟨n, Nat.lt_succ_self n, st'', q', (F'.keeps k).ps F'' p', pp⟩
      | brk => exact hK .next .next st'' s'' q' .next F'' pp
      | ret r => exact hK (.ret _) (.ret _) st'' s'' q' (.ret r) F'' pp

theorem ss_raise {k : String} {e : E} {x : Stmt} : SS G d c (.raise k e) x := by
  intro A env lay Sys base st s F Q X K E hW hK hX
  simp only [ws_0, ws_1, ws_2, ws_3, ws_4, ws_5, ws_6, ws_7, ws_8, ws_9, ws_10, ws_11, ws_12, ws_13, ws_14, ws_15, ws_16, pk_ret, pk_next] at hW

/-- plain stores -/
theorem asg_plain {tg y : Expr} {pos : Pos} {K : Flow → Shared → Prop} {E : Value → Shared → Prop} (hs : swapsWithSole [tg] y pos.line env = pure false) (hw : swappedStores [tg] y env = pure none) (hst : noStar tg = true)
    (h : wpAny (model G.prog G.w) A (eval y env) (fun v s₁ => wpAny (model G.prog G.w) A (assign tg env v) (fun _ s₂ => K .next s₂) E s₁) E s) : wpAny (model G.prog G.w) A (exec (.Assign [tg] y pos) env) K E s := by
  refine wpAny_Assign_stores (wpAny_mono h (fun v s₁ h₁ => ?_) fun _ _ x => x) hs hw
  have e : (assignEach [tg] env).map (·.2) = [assign tg env] := by cases tg <;> first | rfl | exact ff hst
  rw [e]
  exact h₁
end

end Mine
end

section
set_option autoImplicit false
namespace Mine
open PySem

/-- more things off limits, and more tracked -/
theorem Sim.gen {hsh : HFn} {T : Heap → Prop} {lay : Nat → Option Place} {Sys Z New : Addr → Prop} {base : Heap} {st : St} {H' : AH} {h h' : Heap} (S : Sim hsh T lay Sys Z base st h) (k : HW Z h h') (hn : ∀ b, New b → h.get? b = none) (hn' : ∀ b, New b → h'.get? b ≠ none) (hnh : ∀ b, New b → H' b = none)
    (hstay : ∀ b, st.H b ≠ none → H' b = st.H b) (hnew : ∀ b, H' b ≠ none → st.H b = none → h.get? b = none) (hro : ∀ b o, H' b = some o → st.H b = none → RO hsh (NN H' (fun a => Sys a ∨ New a)) h' b o) :
    Sim hsh T lay (fun a => Sys a ∨ New a) Z base { st with H := H' } h' := by
  have hN : ∀ b, NN H' (fun a => Sys a ∨ New a) b → NN st.H Sys b ∨ h.get? b = none := fun b q => by
    rcases q with q | q | q
    · cases e : st.H b with
      | none => exact .inr (hnew b q e)
      | some o => exact .inl (.inl (by rw [e]; simp))
    · exact .inl (.inr q)
    · exact .inr (hn b q)
  have hd : ∀ a, Sys a → H' a = none := fun a q => by
    cases e : H' a with
    | none => rfl
    | some o => exact absurd (hnew a (by rw [e]; simp) (S.dis a q)) (S.live a q)
  refine ⟨S.keep.trans k, fun b q => .inl (S.zs b q), (S.enter k hn hn').top, fun i v p a b => ?_, fun i p a => (S.ok i p a).kz k, S.inj, fun i p a => ?_, fun a o e => ?_, fun a h1 h2 => ?_, fun a q e => ?_, S.ent, fun a q => q.elim (hd a) (hnh a)⟩
  · obtain ⟨val, x, y⟩ := S.vals i v p a b
    exact ⟨val, x.kz k, y.gen hN fun b o nb e => (k b o e).1 fun q => nb (.inr (S.zs b q))⟩
  · have hs := S.sys i p a
    exact ⟨.inl hs.1, hs.2.1, hd _ hs.1⟩
  · cases e' : st.H a with
    | none => exact hro a o e e'
    | some o' =>
      have : H' a = some o := e
      rw [hstay a (by rw [e']; simp)] at this
      exact (S.objs a o this).gen hN (fun b o nb e => (k b o e).1 fun q => nb (.inr (S.zs b q))) fun o e => (k a o e).1 fun q => by rw [S.dis a (S.zs a q)] at e'; cases e'
  · cases e : st.H a with
    | some o => exact S.own a (by rw [e]; simp) h2
    | none =>
      exact S.keep.ext (hnew a h1 e)
  · rcases q with q | q
    · exact S.live a q (k.ext e)
    · exact hn' a q e

/-- leaving what was off limits for a while -/
theorem Sim.leave {hsh : HFn} {T : Heap → Prop} {lay : Nat → Option Place} {Sys Z New : Addr → Prop} {base : Heap} {st : St} {h h' : Heap} (S : Sim hsh T lay (fun a => Sys a ∨ New a) Z base st h) (hz : ∀ b, Z b → Sys b) (hk : ∀ b o, ¬ New b → h.get? b = some o → h'.get? b = some o)
    (hlay : ∀ i p, lay i = some p → Sys p.addr) (hSN : ∀ a, Sys a → ¬ New a) (hH : ∀ b, st.H b ≠ none → ¬ New b) (hbase : ∀ b, New b → base.get? b = none) : Sim hsh T lay Sys Z base st h' := by
  have hN : ∀ b, NN st.H Sys b → NN st.H (fun a => Sys a ∨ New a) b ∨ h.get? b = none := fun b q => .inl (q.elim .inl fun q => .inr (.inl q))
  have hk' : ∀ b o, ¬ NN st.H (fun a => Sys a ∨ New a) b → h.get? b = some o → h'.get? b = some o := fun b o nb e => hk b o (fun q => nb (.inr (.inr q))) e
  have hpl : ∀ i p, lay i = some p → ∀ o, h.get? p.addr = some o → h'.get? p.addr = some o := fun i p hp o e => hk _ o (hSN _ (hlay i p hp)) e
  refine ⟨fun b o e => have nb : ¬ New b := fun q => by rw [hbase b q] at e; cases e
    ⟨fun n => hk b o nb ((S.keep b o e).1 n), let ⟨sl, e'⟩ := (S.keep b o e).2; ⟨sl, hk b _ nb e'⟩⟩, hz, let ⟨b0, t, k0, n⟩ := S.top; ⟨b0, t, k0, fun a q => n a (q.imp .inl id)⟩, fun i v p a b => ?_, fun i p a => ?_, S.inj, fun i p a => ⟨hlay i p a, (S.sys i p a).2⟩, fun a o e => ?_, S.own, fun a q e => ?_, S.ent, fun a q => S.dis a (.inl q)⟩
  · obtain ⟨val, x, y⟩ := S.vals i v p a b
    refine ⟨val, ?_, y.gen hN hk'⟩
    have hp := hpl i p b
    cases p with
    | loc L z =>
      obtain ⟨m, ⟨o, es, ep, ho, r⟩, e⟩ := x
      exact ⟨m, ⟨o, es, ep, hp o ho, r⟩, e⟩
    | cell cc =>
      obtain ⟨o, ho, r⟩ := x
      exact ⟨o, hp o ho, r⟩
  · have hp := hpl i p a
    have x := S.ok i p a
    cases p with
    | loc L z =>
      obtain ⟨m, o, es, ep, ho, r⟩ := x
      exact ⟨m, o, es, ep, hp o ho, r⟩
    | cell cc =>
      obtain ⟨v, o, ho, r⟩ := x
      exact ⟨v, o, hp o ho, r⟩
  · refine (S.objs a o e).gen hN hk' fun o' e' => hk a o' (hH a (by rw [e]; simp)) e'
  · cases q' : h.get? a with
    | none => exact S.live a (.inl q) q'
    | some o => rw [hk a o (hSN a q) q'] at e; cases e

/-- a tracked thing of the frame's own is turned -/
theorem Sim.write {hsh : HFn} {T : Heap → Prop} {lay : Nat → Option Place} {Sys Z : Addr → Prop} {base : Heap} {st : St} {h h' : Heap} {ad : Addr} {o o' : AO} (S : Sim hsh T lay Sys Z base st h) (ho : st.H ad = some o) (hB : st.B ad = none)
    (hk : ∀ b ob, b ≠ ad → h.get? b = some ob → h'.get? b = some ob) (ro : RO hsh (NN (st.H.upd ad o') Sys) h' ad o') : Sim hsh T lay Sys Z base { st with H := st.H.upd ad o' } h' := by
  have hb : base.get? ad = none := S.own ad (by rw [ho]; simp) hB
  have hN : ∀ b, NN (st.H.upd ad o') Sys b → NN st.H Sys b ∨ h.get? b = none := fun b q => by
    rcases q with q | q
    · by_cases e : b = ad
      · subst e; exact .inl (.inl (by rw [ho]; simp))
      · rw [upd_other _ _ e] at q; exact .inl (.inl q)
    · exact .inl (.inr q)
  have hk' : ∀ b ob, ¬ NN st.H Sys b → h.get? b = some ob → h'.get? b = some ob := fun b ob nb e => hk b ob (fun q => nb (.inl (by rw [q, ho]; simp))) e
  have hpl : ∀ i p, lay i = some p → p.addr ≠ ad := fun i p hp e => by have := (S.sys i p hp).2.2; rw [e, ho] at this; cases this
  have hda : ¬ Sys ad := fun q => by rw [S.dis ad q] at ho; cases ho
  refine ⟨S.keep.ext1 hb hk, S.zs, S.top, fun i v p a b => ?_, fun i p a => ?_, S.inj, fun i p a => ?_, fun a ob e => ?_, fun a h1 h2 => ?_, fun a q e => ?_, S.ent, fun a q => (upd_other _ _ fun e : a = ad => hda (e ▸ q)).trans (S.dis a q)⟩
  · obtain ⟨val, x, y⟩ := S.vals i v p a b
    refine ⟨val, ?_, y.gen hN hk'⟩
    have hp := hpl i p b
    cases p with
    | loc L z =>
      obtain ⟨m, ⟨o, es, ep, ho, r⟩, e⟩ := x
      exact ⟨m, ⟨o, es, ep, hk _ o hp ho, r⟩, e⟩
    | cell cc =>
      obtain ⟨o, ho, r⟩ := x
      exact ⟨o, hk _ o hp ho, r⟩
  · have hp := hpl i p a
    have x := S.ok i p a
    cases p with
    | loc L z =>
      obtain ⟨m, o, es, ep, ho, r⟩ := x
      exact ⟨m, o, es, ep, hk _ o hp ho, r⟩
    | cell cc =>
      obtain ⟨v, o, ho, r⟩ := x
      exact ⟨v, o, hk _ o hp ho, r⟩
  · have hs := S.sys i p a
    refine ⟨hs.1, hs.2.1, ?_⟩
    show st.H.upd ad o' p.addr = none
    rw [upd_other _ _ (hpl i p a)]; exact hs.2.2
  · by_cases q : a = ad
    · subst q
      have e : st.H.upd a o' a = some ob := e
      rw [upd_self] at e; cases e; exact ro
    · have e : st.H.upd ad o' a = some ob := e
      rw [upd_other _ _ q] at e
      exact (S.objs a ob e).gen hN hk' fun o1 e1 => hk a o1 q e1
  · by_cases q : a = ad
    · subst q; exact hb
    · have h1 : st.H.upd ad o' a ≠ none := h1
      rw [upd_other _ _ q] at h1; exact S.own a h1 h2
  · by_cases q' : a = ad
    · subst q'
      obtain ⟨ob, e'⟩ := ro.exists
      rw [e'] at e; cases e
    · cases q2 : h.get? a with
      | none => exact S.live a q q2
      | some ob => rw [hk a ob q' q2] at e; cases e
theorem Ps.write {Z : Addr → Prop} {lay : Nat → Option Place} {st : St} {s : Shared} {h' : Heap} {tk : Nat} {ad : Addr} {o o' : AO} (ho : st.H ad = some o) (hk : ∀ b ob, b ≠ ad → s.heap.get? b = some ob → h'.get? b = some ob) (hx : h'.get? ad ≠ none) :
    Ps false lay Z st s { st with H := st.H.upd ad o' } { s with heap := h', toks := tk } where
  sh := ⟨h', tk, rfl⟩
  old := fun b ob hb _ e => have e' := hk b ob (fun q => by rw [q, ho] at hb; cases hb) e; ⟨fun _ => e', ob.slots, e'⟩
  new := fun b h e => by
    by_cases q : b = ad
    · rw [q, ho] at e; cases e
    · have h : st.H.upd ad o' b ≠ none := h
      rw [upd_other _ _ q] at h; exact absurd e h
  stay := fun b h => by
    show st.H.upd ad o' b ≠ none
    by_cases q : b = ad
    · rw [q, upd_self]; simp
    · rw [upd_other _ _ q]; exact h
  B := rfl
  len := rfl
  ext := fun b h e => by
    by_cases q : b = ad
    · subst q; exact hx e
    · cases q2 : s.heap.get? b with
      | none => exact h q2
      | some ob =>
        have := hk b ob q q2
        rw [show ({ s with heap := h', toks := tk } : Shared).heap = h' from rfl, this] at e; cases e
  qt := nofun
theorem RVs.upd {H : AH} {Sys : Addr → Prop} {h h' : Heap} {ad : Addr} {o o' : AO} {vs : List V} {xs : List Value} (r : RVs (NN H Sys) h vs xs) (ho : H ad = some o) (hk : ∀ b ob, b ≠ ad → h.get? b = some ob → h'.get? b = some ob) : RVs (NN (H.upd ad o') Sys) h' vs xs :=
  r.gen (fun b q => by
    rcases q with q | q
    · by_cases e : b = ad
      · subst e; exact .inl (.inl (by rw [ho]; simp))
      · rw [upd_other _ _ e] at q; exact .inl (.inl q)
    · exact .inl (.inr q)) fun b ob nb e => hk b ob (fun q => nb (.inl (by rw [q, ho]; simp))) e
theorem RV.upd {H : AH} {Sys : Addr → Prop} {h h' : Heap} {ad : Addr} {o o' : AO} {v : V} {x : Value} (r : RV (NN H Sys) h v x) (ho : H ad = some o) (hk : ∀ b ob, b ≠ ad → h.get? b = some ob → h'.get? b = some ob) : RV (NN (H.upd ad o') Sys) h' v x :=
  r.gen (fun b q => by
    rcases q with q | q
    · by_cases e : b = ad
      · subst e; exact .inl (.inl (by rw [ho]; simp))
      · rw [upd_other _ _ e] at q; exact .inl (.inl q)
    · exact .inl (.inr q)) fun b ob nb e => hk b ob (fun q => nb (.inl (by rw [q, ho]; simp))) e

end Mine
end

section
set_option autoImplicit false
namespace Mine
open PySem

section
variable {G : PG} {d : Nat} {c : Sc} {A : Around} {env : Env} {lay : Nat → Option Place} {Sys : Addr → Prop} {base : Heap} {st : St} {s : Shared}

theorem chkN_star {i : Nat} {tg : Expr} (h : chkN c i tg = true) : noStar tg = true := by obtain ⟨x, pos, rfl, _⟩ := chkN_eq h; rfl
theorem chkN_swap {i : Nat} {tg y : Expr} (h : chkN c i tg = true) : swappedStores [tg] y env = pure none := by obtain ⟨x, pos, rfl, _⟩ := chkN_eq h; rfl

theorem ss_own {i : Nat} {a : Mine.A} {tg y : Expr} {pos : Pos} {Q : Fl → St → Prop} {X : String → St → Prop} {K : Flow → Shared → Prop} {E : Value → Shared → Prop} (F : Fx G d c A env lay Sys base st s) (ha : SA G d c a y) (ht : chkN c i tg = true) (hs : swapsWithSole [tg] y pos.line env = pure false)
    (hW : WS (G.cx d) (.own i a) st Q X) (hK : ∀ f fl st' s', Q f st' → FlR (NN st'.H Sys) s'.heap f fl → Fx0 G d c A env lay Sys base st' s' → Ps true lay (FZ A Sys) st s st' s' → K fl s') (hX : ∀ e s', RzS G.mg A Sys base s X e s' → E e s') : wpAny (model G.prog G.w) A (exec (.Assign [tg] y pos) env) K E s := by
  simp only [ws_0, ws_1, ws_2, ws_3, ws_4, ws_5, ws_6, ws_7, ws_8, ws_9, ws_10, ws_11, ws_12, ws_13, ws_14, ws_15, ws_16, pk_ret, pk_next] at hW
  refine asg_plain hs (chkN_swap ht) (chkN_star ht) (ha F _ _ _ E hW (fun v H' val s₁ q F₁ r k g => ?_) fun e s' q => hX e s' (q.toS F))
  replace q := putV_inv (P := fun ρ' => Q .next { st with ρ := ρ', H := H' }) q
  refine st_one F₁.eo F₁.sim ht q.1 r fun h' tk S' tc => ?_
  exact hK .next .next _ _ q.2 .next ⟨F.rm, F.eo, F.us, S', F.own, F.cold⟩ ((Ps.ofK k g).trans (Ps.ofTc (st := { st with H := H' }) S' tc (by simp)))

/-- a comprehension's value, stored ahead of the names' letting go -/
theorem own_swap {f : V → (Option V → Prop) → Prop} {t : Tg} {tg tg' iter elt : Expr} {ifs : List Expr} {sc : Scope} {pos pos' : Pos} {xs : List Str} {it : It} {i : Nat} {QQ : List V → Prop} {X' : String → Prop} {Q : Fl → St → Prop} {K : Flow → Shared → Prop} {E : Value → Shared → Prop}
    (F : Fx G d c A env lay Sys base st s) (hi : SI G d c it iter) (hset : isSetX iter = false) (hez : isEZ it = true → isTupX tg' = true) (ht : TableOk c xs sc) (hti : tgIs c.used t xs = true) (htg : chkTg (inner c xs sc.names) t tg' = true)
    (hstep : CStep G d c A st base xs sc t ifs elt f) (htn : chkN c i tg = true) (hsw : swapsWithSole [tg] (.ListComp elt [⟨tg', iter, ifs, 0⟩] sc pos') pos.line env = pure true) (hW : WI (G.cx d) it st (fun xs _ => xs.length ≤ sizeLine ∧ compL f xs QQ) X')
    (hmk : ∀ ys D, QQ ys → freshAt st D → ∃ v H', i < st.ρ.length ∧ Q .next { st with ρ := st.ρ.set i (some v), H := H' } ∧ ((v = .lst ys ∧ H' = st.H) ∨ (v = .ref D ∧ H' = st.H.upd D (.list ys))))
    (hK : ∀ f fl st' s', Q f st' → FlR (NN st'.H Sys) s'.heap f fl → Fx0 G d c A env lay Sys base st' s' → Ps true lay (FZ A Sys) st s st' s' → K fl s') (hX : ∀ e s', Rz G.mg A Sys s X' e s' → E e s') :
    wpAny (model G.prog G.w) A (exec (.Assign [tg] (.ListComp elt [⟨tg', iter, ifs, 0⟩] sc pos') pos) env) K E s := by
  have etg : (assignEach [tg] env).map (·.2) = [assign tg env] := by obtain ⟨x, p, rfl, _⟩ := chkN_eq htn; rfl
  rw [exec_Assign_arm]
  refine wpAny_bind (wpAny_standAt ?_)
  rw [hsw]
  refine wpAny_bind (wpAny_pure ?_)
  rw [if_pos rfl, etg]
  obtain ⟨cl, e1, e2⟩ := closure_ok (free_cells F.eo ht)
  refine wpAny_bind ?_
  show wpAny _ A (do let _ ← comprehension (.ListComp elt [⟨tg', iter, ifs, 0⟩] sc pos') sc env _ (newList []) false (eval iter env) (some fun v => assignAll v [assign tg env])) _ _ s
  refine wpAny_bind (wpAny_mono (wpAny_comprehension_free (use := some fun v => assignAll v [assign tg env]) (Q := fun _ s' => K .next s') rfl (folded_plain hset env) e1 ht.kind (fun x hx hl => by rw [← hl]; exact nodup_lookup ht.nodup hx) ?_) (fun _ s' hq => wpAny_pure (wpAny_pure hq)) fun _ _ e => e)
  refine hi F _ X' _ E hW (fun vs ds I s₂ hq k io => ?_) hX
  refine comp_block (RR := fun acc C => compPost (model G.prog G.w) A E (some fun v => assignAll v [assign tg env]) (fun _ s' => K .next s') acc C) F k io hez hq.1 ht hti htg e2 hstep hq.2 ?_
  intro D C h' tk m' ys zs nn hQ hD hC hDC hm hl hz hr hk
  obtain ⟨h2, t2, rfl, k2⟩ := k
  show wpAny _ A (assign tg env (.ref D)) _ _ _
  have hbC : base.get? C = none := F.sim.keep.ext hC
  have hbD : base.get? D = none := F.sim.keep.ext hD
  obtain ⟨v, H', hil, hq2, hcase⟩ := hmk ys D hQ ⟨F.sim.fresh hD, F.sim.freshB hD⟩
  have hHC : H' C = none := by
    rcases hcase with ⟨_, rfl⟩ | ⟨_, rfl⟩
    · exact F.sim.fresh hC
    · rw [upd_other _ _ (Ne.symm hDC)]; exact F.sim.fresh hC
  have hHD : st.H D = none := F.sim.fresh hD
  have hCex : h'.get? C ≠ none := by
    obtain ⟨o, es, ep, ho, _⟩ := hm
    rw [ho]; simp
  have hgr : Gr st.H H' s := by
    rcases hcase with ⟨_, rfl⟩ | ⟨_, rfl⟩
    · exact Gr.refl _ _
    · refine ⟨fun b h => upd_other _ _ (fun e => h (e ▸ hHD)), fun b h e => ?_⟩
      by_cases q : b = D
      · rw [q]; exact hD
      · rw [upd_other _ _ q] at h; exact absurd e h
  have S1 : Sim G.hf (TT G) lay (fun a => Sys a ∨ a = C) (FZ A Sys) base { st with H := H' } h' := by
    refine F.sim.gen (New := fun a => a = C) hk (fun b q => by rw [q]; exact hC) (fun b q => by rw [q]; exact hCex) (fun b q => by rw [q]; exact hHC) hgr.stay hgr.new fun b o e e' => ?_
    rcases hcase with ⟨_, rfl⟩ | ⟨_, rfl⟩
    · rw [e'] at e; cases e
    · by_cases q : b = D
      · subst q
        rw [upd_self] at e; cases e
        refine .list hl hz (hr.less fun b' q => ?_)
        rcases q with q | q | q
        · by_cases e : b' = b
          · exact .inr (.inr (.inr e))
          · rw [upd_other _ _ e] at q; exact .inl q
        · exact .inr (.inl q)
        · exact .inr (.inr (.inl q))
      · rw [upd_other _ _ q, e'] at e; cases e
  have hrv : RV (NN H' (fun a => Sys a ∨ a = C)) h' v (.ref D) := by
    rcases hcase with ⟨rfl, rfl⟩ | ⟨rfl, rfl⟩
    · refine .lst (fun q => ?_) hl hz (hr.less fun b' q => ?_)
      · rcases q with q | q | q
        · exact q hHD
        · exact F.sim.live _ q hD
        · exact hDC q
      · rcases q with q | q | q
        · exact .inl q
        · exact .inr (.inl q)
        · exact .inr (.inr (.inl q))
    · exact .ref D
  refine st_one (st := { st with H := H' }) (s := { s with heap := h', toks := tk }) F.eo S1 htn hil hrv fun h3 tk3 S3 tc => ?_
  have hplC : ∀ i p, lay i = some p → C ≠ p.addr := fun i p hp e => F.sim.live _ (F.sim.sys i p hp).1 (e ▸ hC)
  refine ⟨m', hm.at' fun o e => tc C o (fun i _ p hp => hplC i p hp) e, fun h4 hs => ?_⟩
  have S4 : Sim G.hf (TT G) lay Sys (FZ A Sys) base { st with H := H', ρ := st.ρ.set i (some v) } h4 :=
    Sim.leave (New := fun a => a = C) S3 (fun _ q => q.2) (fun b o nb e => hs.extBut b o nb e) (fun i p hp => (F.sim.sys i p hp).1) (fun a q e => F.sim.live _ q (e ▸ hC)) (fun b h e => h (e ▸ hHC)) fun b q => by rw [q]; exact hbC
  refine hK .next .next _ _ hq2 .next ⟨F.rm, F.eo, F.us, S4, F.own, F.cold⟩ ⟨⟨h4, tk3, rfl⟩, fun b o hb hp e => ?_, fun b h e => hgr.new b h e, fun b h => ?_, rfl, by simp, fun b h e => ?_, fun _ b o hp e n => hs.extBut b o (fun q => by rw [q, hC] at e; cases e) (tc b o (fun i _ p hi => hp i p hi) ((hk b o e).1 n))⟩
  · have nb : b ≠ C := fun q => by rw [q, hC] at e; cases e
    refine ⟨fun n => hs.extBut b o nb (tc b o (fun i _ p hi => hp i p hi) ((hk b o e).1 n)), ?_⟩
    obtain ⟨sl, e'⟩ := (hk b o e).2
    exact ⟨sl, hs.extBut b _ nb (tc b _ (fun i _ p hi => hp i p hi) e')⟩
  · show H' b ≠ none; rw [hgr.stay b h]; exact h
  · cases q : s.heap.get? b with
    | none => exact h q
    | some o =>
      have hbC' : b ≠ C := fun q' => by rw [q', hC] at q; cases q
      have e4 : h4.get? b = none := e
      rw [hs.2 b hbC'] at e4
      by_cases hp : ∃ i p, lay i = some p ∧ b = p.addr
      · obtain ⟨i, p, hi, rfl⟩ := hp
        exact S3.live _ (.inl (F.sim.sys i p hi).1) e4
      · obtain ⟨sl, q'⟩ := (hk b o q).2
        have := tc b _ (fun i _ p hi hb => hp ⟨i, p, hi, hb⟩) q'
        rw [this] at e4; cases e4
end

end Mine
end

section
set_option autoImplicit false
namespace Mine
open PySem

section
variable {G : PG} {d : Nat} {c : Sc} {A : Around} {env : Env} {lay : Nat → Option Place} {Sys : Addr → Prop} {base : Heap} {st : St} {s : Shared}

theorem sole_none {tg y : Expr} {l : Nat} (h : isComp y = false) : swapsWithSole [tg] y l env = pure false := swaps_none h
theorem sole_case {i : Nat} {tg elt : Expr} {gens : List Comprehension} {sc : Scope} {p : Pos} {l : Nat} (h : chkN c i tg = true) : swapsWithSole [tg] (.ListComp elt gens sc p) l env = pure false ∨ swapsWithSole [tg] (.ListComp elt gens sc p) l env = pure true := by
  obtain ⟨x, pos, rfl, _⟩ := chkN_eq h
  have e : swapsWithSole [.Name x pos] (.ListComp elt gens sc p) l env = pure (env.blockKind == .function && env.kindOf x == some .local && pos.line == (Expr.ListComp elt gens sc p).pos.line
      && !(sc.names.any fun (n, k) => n == x && (k == .local || k == .cell))) := rfl
  rw [e]
  cases (env.blockKind == .function && env.kindOf x == some .local && pos.line == (Expr.ListComp elt gens sc p).pos.line && !(sc.names.any fun (n, k) => n == x && (k == .local || k == .cell)))
  · exact .inl rfl
  · exact .inr rfl

theorem snd_own (hc : CallSnd G d) {i : Nat} {a : Mine.A} {tg y : Expr} {pos : Pos} (hf : c.fns = G.tbl.map (·.1) ∧ c.xs = G.xs ∧ c.hots = G.hots) (ht : chkN c i tg = true) (ha : chkA c a y = true) (hn : okOwn a = true) : SS G d c (.own i a) (.Assign [tg] y pos) := by
  intro A env lay Sys base st s F Q X K E hW hK hX
  by_cases hcp : isComp y = true
  · -- a comprehension
    have key : ∀ e, chkE c e y = true → (a = .pure e ∨ (a = .thaw e)) → wpAny (model G.prog G.w) A (exec (.Assign [tg] y pos) env) K E s := by
      intro e he hae
      cases e with
      | comp elt t it =>
        replace he := onLC_inv he; obtain ⟨y0, gs, sc, p', rfl, he⟩ := he
        replace he := one_inv he; obtain ⟨g, rfl, he⟩ := he
        apply and2_elim he; clear he; intro h0 he
        apply and2_elim h0; clear h0; intro hz h0
        obtain ⟨tg', iter, ifs, ias⟩ := g
        have e0 := of_decide_eq_true h0
        simp only at hz e0 he
        cases ifs with
        | cons => exact ff hz
        | nil =>
        subst e0
        · split at he
          · rename_i xs hx
            apply and7_elim he; clear he; intro h1 h2 h3 h4 h00 h5 h6
            try simp only [Bool.not_eq_true'] at h1
            try simp only [Bool.not_eq_true'] at h2
            try simp only [Bool.not_eq_true'] at h3
            try simp only [Bool.not_eq_true'] at h4
            try simp only [Bool.not_eq_true'] at h00
            try simp only [Bool.not_eq_true'] at h5
            try simp only [Bool.not_eq_true'] at h6
            have hf' : (inner c xs sc.names).fns = G.tbl.map (·.1) ∧ (inner c xs sc.names).xs = G.xs ∧ (inner c xs sc.names).hots = G.hots := hf
            rcases sole_case (env := env) (elt := y0) (gens := [⟨tg', iter, [], 0⟩]) (sc := sc) (p := p') (l := pos.line) ht with hs | hs
            · exact ss_own F (sndA hc a c _ hf ha) ht hs hW hK hX
            · have hstep : CStep G d c A st base xs sc t [] y0 _ := cstep_plain (sndE hc elt _ _ hf' h6).1
              simp only [ws_0, ws_1, ws_2, ws_3, ws_4, ws_5, ws_6, ws_7, ws_8, ws_9, ws_10, ws_11, ws_12, ws_13, ws_14, ws_15, ws_16, pk_ret, pk_next] at hW
              rcases hae with rfl | rfl
              · simp only [wa_0, wa_1, wa_2, wa_3, wa_4, wa_5, we_0, we_1, we_2, we_3, we_4, we_5, we_6, we_7, we_8, we_9, we_10, we_11, we_12, we_13, we_14, we_15, we_16, we_17, we_18, we_19, we_20, we_21, we_22, we_23, we_24, we_25, we_26, we_27, we_28, we_29, we_30, we_31, we_32, we_33, we_34, we_35, we_36, we_37] at hW
                refine own_swap (QQ := fun ys => match putV i (.lst ys) st.ρ with
                  | some ρ' => Q .next { st with ρ := ρ' }
                  | none => False) F ((sndI hc it c _ hf h5).1 (ezOk_walk h00)) h4 (ezOk_inv h00) (tableOk_eq h2) h1 h3 hstep ht hs hW (fun ys D q _ => let q := putV_inv (P := fun ρ' => Q .next { st with ρ := ρ' }) q; ⟨_, _, q.1, q.2, .inl ⟨rfl, rfl⟩⟩) hK fun e s' q => hX e s' (q.toS F)
              · simp only [wa_0, wa_1, wa_2, wa_3, wa_4, wa_5, we_0, we_1, we_2, we_3, we_4, we_5, we_6, we_7, we_8, we_9, we_10, we_11, we_12, we_13, we_14, we_15, we_16, we_17, we_18, we_19, we_20, we_21, we_22, we_23, we_24, we_25, we_26, we_27, we_28, we_29, we_30, we_31, we_32, we_33, we_34, we_35, we_36, we_37] at hW
                refine own_swap (QQ := fun ys => ∀ a, freshAt st a → match putV i (.ref a) st.ρ with
                  | some ρ' => Q .next { st with ρ := ρ', H := st.H.upd a (.list ys) }
                  | none => False) F ((sndI hc it c _ hf h5).1 (ezOk_walk h00)) h4 (ezOk_inv h00) (tableOk_eq h2) h1 h3 hstep ht hs hW (fun ys D q fr => let q := putV_inv (P := fun ρ' => Q .next { st with ρ := ρ', H := st.H.upd D (.list ys) }) (q D fr); ⟨_, _, q.1, q.2, .inr ⟨rfl, rfl⟩⟩) hK fun e s' q => hX e s' (q.toS F)
          · cases he
      | compIf elt t it cd => rcases hae with rfl | rfl <;> exact ff hn
      | _ => exact ff (comp_only he hcp)
    cases a with
    | pure e => exact key e ha (.inl rfl)
    | thaw e => exact key e ((Bool.and_eq_true _ _).mp ha).2 (.inr rfl)
    | list as => obtain ⟨xs, p, rfl, _⟩ := onList_inv ha; exact ff hcp
    | callO f es => exact ff ha
    | dict => exact ff ha
    | new f es => obtain ⟨y', p', xs', q', rfl, _⟩ := onCallN_inv ha; exact ff hcp
  · exact ss_own F (sndA hc a c _ hf ha) ht (sole_none (by simpa using hcp)) hW hK hX
end

end Mine
end

section
set_option autoImplicit false
namespace Mine
open PySem

noncomputable def nmOf : Expr → Option Str
  | .Name a _ => some a
  | _ => none

theorem fm_len {α β : Type} (g : α → Option β) : ∀ l : List α, (l.filterMap g).length ≤ l.length := fun l => List.length_filterMap_le g l
theorem fm_eq (g : Expr → Option Str) : ∀ (l : List Expr), (∀ x ∈ l, g x = nmOf x ∨ g x = none) → (∀ x ∈ l, (nmOf x).isSome) → (l.filterMap g).length = l.length → l.filterMap g = l.filterMap nmOf
  | [], _, _, _ => rfl
  | x :: r, hg, hn, hl => by
    rcases hg x (by simp) with h | h
    · rw [List.filterMap_cons, List.filterMap_cons, h]
      cases hx : nmOf x with
      | none => have := hn x (by simp); rw [hx] at this; cases this
      | some a =>
        rw [List.filterMap_cons, h, hx] at hl
        simp only [List.length_cons, Nat.add_right_cancel_iff] at hl ⊢
        rw [fm_eq g r (fun y hy => hg y (List.mem_cons_of_mem _ hy)) (fun y hy => hn y (List.mem_cons_of_mem _ hy)) hl]
    · rw [List.filterMap_cons, h] at hl
      have := fm_len g r
      simp only [List.length_cons] at hl
      omega

theorem setAll_comm {i : Nat} {v : V} : ∀ {is : List Nat} {vs : List V} {ρ : List (Option V)}, i ∉ is → setAll is vs (ρ.set i (some v)) = (setAll is vs ρ).map (·.set i (some v))
  | [], [], _, _ => rfl
  | [], _ :: _, _, _ => rfl
  | _ :: _, [], _, _ => rfl
  | j :: is, w :: vs, ρ, h => by
    simp only [sa_nil, sa_cons, sa_l, sa_r, List.length_set]
    have hij : i ≠ j := fun e => h (by simp [e])
    split
    · rw [List.set_comm _ _ hij, setAll_comm (fun q => h (by simp [q]))]
    · rfl
theorem setAll_snoc {i : Nat} {v : V} : ∀ {is : List Nat} {vs : List V} {ρ : List (Option V)}, is.length = vs.length → setAll (is ++ [i]) (vs ++ [v]) ρ = (setAll is vs ρ).bind fun ρ' => if i < ρ'.length then some (ρ'.set i (some v)) else none
  | [], [], ρ, _ => by simp [sa_nil, sa_cons, sa_l, sa_r]
  | [], _ :: _, _, h => by simp at h
  | _ :: _, [], _, h => by simp at h
  | j :: is, w :: vs, ρ, h => by
    simp only [List.cons_append, sa_nil, sa_cons, sa_l, sa_r]
    split
    · exact setAll_snoc (by simpa using h)
    · rfl
theorem setAll_rev : ∀ {is : List Nat} {vs : List V} {ρ : List (Option V)}, is.Nodup → is.length = vs.length → setAll is.reverse vs.reverse ρ = setAll is vs ρ
  | [], [], _, _, _ => rfl
  | [], _ :: _, _, _, h => by simp at h
  | _ :: _, [], _, _, h => by simp at h
  | i :: is, v :: vs, ρ, hn, h => by
    rw [List.nodup_cons] at hn
    have hl : is.length = vs.length := by simpa using h
    rw [List.reverse_cons, List.reverse_cons, setAll_snoc (by simp [hl]), setAll_rev hn.2 hl]
    simp only [sa_nil, sa_cons, sa_l, sa_r]
    split
    · rename_i hi
      rw [setAll_comm hn.1]
      cases e : setAll is vs ρ with
      | none => rfl
      | some ρ' =>
        have := (setAll_len e).2
        simp only [Option.bind_some, Option.map_some]
        rw [if_pos (by omega)]
    · rename_i hi
      cases e : setAll is vs ρ with
      | none => rfl
      | some ρ' =>
        have := (setAll_len e).2
        simp only [Option.bind_some]
        rw [if_neg (by omega)]

section
variable {G : PG} {d : Nat} {c : Sc} {A : Around} {env : Env} {lay : Nat → Option Place} {Sys : Addr → Prop} {base : Heap} {st : St} {s : Shared}

theorem chkTg_star {t : Tg} {tg : Expr} (h : chkTg c t tg = true) : noStar tg = true := by
  cases t with
  | var i => exact chkN_star h
  | tup is =>
    apply onTup_elim h; clear h; intro xs k p h
    rfl

noncomputable def NsOk (c : Sc) : List Nat → List Str → Prop
  | [], [] => True
  | i :: is, x :: xs => (c.σ.lookup x = some i ∧ (c.names.lookup x = some .local ∨ c.names.lookup x = some .cell)) ∧ NsOk c is xs
  | _, _ => False
theorem NsOk.snoc {i : Nat} {x : Str} (h : c.σ.lookup x = some i ∧ (c.names.lookup x = some .local ∨ c.names.lookup x = some .cell)) : ∀ {is : List Nat} {xs : List Str}, NsOk c is xs → NsOk c (is ++ [i]) (xs ++ [x])
  | [], [], _ => ⟨h, trivial⟩
  | [], _ :: _, q => q.elim
  | _ :: _, [], q => q.elim
  | _ :: _, _ :: _, q => ⟨q.1, NsOk.snoc h q.2⟩
theorem NsOk.rev : ∀ {is : List Nat} {xs : List Str}, NsOk c is xs → NsOk c is.reverse xs.reverse
  | [], [], _ => trivial
  | [], _ :: _, q => q.elim
  | _ :: _, [], q => q.elim
  | _ :: _, _ :: _, q => by rw [List.reverse_cons, List.reverse_cons]; exact NsOk.snoc q.1 q.2.rev
theorem chkNs_ok : ∀ {is : List Nat} {ts : List Expr}, chkNs c is ts = true → NsOk c is (ts.filterMap nmOf) ∧ (∀ x ∈ ts, (nmOf x).isSome) ∧ (ts.filterMap nmOf).length = is.length
  | [], [], _ => ⟨trivial, by simp, rfl⟩
  | [], _ :: _, h => by simp [chkNs] at h
  | _ :: _, [], h => by simp [chkNs] at h
  | i :: is, t :: ts, h => by
    simp only [chkNs, Bool.and_eq_true] at h
    obtain ⟨x, pos, rfl, h1⟩ := chkN_eq h.1
    obtain ⟨h2, h3, h4⟩ := chkNs_ok h.2
    rw [List.filterMap_cons]
    exact ⟨⟨h1, h2⟩, by simp [nmOf]; exact h3, by simp [nmOf, h4]⟩

theorem bind_each {M : Model} {E : Value → Shared → Prop} {Q : Unit → Shared → Prop} : ∀ (is : List Nat) (xs : List Str) (vs : List V) (vals : List Value) (st : St) (ρ' : List (Option V)) (s : Shared), EnvOk env c.names c.σ lay → Sim G.hf (TT G) lay Sys (FZ A Sys) base st s.heap → NsOk c is xs → setAll is vs st.ρ = some ρ' →
    RVs (NN st.H Sys) s.heap vs vals → (∀ h' tk, Sim G.hf (TT G) lay Sys (FZ A Sys) base { st with ρ := ρ' } h' → Tc is lay s.heap h' → Q () { s with heap := h', toks := tk }) → wpAny M A (assignInOrder (xs.map fun n => bindName env n) vals) Q E s
  | [], xs, vs, vals, st, ρ', s, O, S, hc, hs, hr, hQ => by
    cases xs with
    | cons => exact hc.elim
    | nil =>
      cases vs with
      | cons => simp [sa_nil, sa_cons, sa_l, sa_r] at hs
      | nil =>
        simp [sa_nil, sa_cons, sa_l, sa_r] at hs; subst hs
        exact wpAny_pure (hQ s.heap s.toks S (Tc.refl _))
  | i :: is, xs, vs, vals, st, ρ', s, O, S, hc, hs, hr, hQ => by
    cases xs with
    | nil => exact hc.elim
    | cons x xs =>
      cases vs with
      | nil => simp [sa_nil, sa_cons, sa_l, sa_r] at hs
      | cons v vs =>
        simp only [sa_nil, sa_cons, sa_l, sa_r] at hs
        split at hs
        · rename_i hi
          cases hr with
          | cons r1 r2 =>
            obtain ⟨⟨h1, h2⟩, h3⟩ := hc
            show wpAny M A (do holding _ (bindName env x _); assignInOrder (xs.map fun n => bindName env n) _) Q E s
            refine wpAny_bind (wpAny_holding (wpAny_bindName (st_var O S h1 hi (fun e => ?_) r1 fun h' tk p hp hsb S' => ?_)))
            · rcases h2 with h2 | h2
              · rw [O.lc x h2] at e; cases e
              · rw [O.ce x h2] at e; cases e
            · have tc : Tc [i] lay s.heap h' := fun b o nb e => (hsb.2 b (nb i (by simp) p hp)).trans e
              exact bind_each is xs vs _ _ ρ' { s with heap := h', toks := tk } O S' h3 hs (RVs.tc (st := st) (s := s) S r2 tc) fun h'' tk' S'' tc' => hQ h'' tk' S'' ((tc.more (by simp)).trans (tc'.more (by intro j hj; simp [hj])))
        · cases hs

theorem RVs.rev {N : Addr → Prop} {h : Heap} {vs : List V} {xs : List Value} (r : RVs N h vs xs) : RVs N h vs.reverse xs.reverse := RVs.reverse r

theorem last_at {vs : List V} {W : V → Prop} {P : Prop} (h : match vs.getLast? with
    | some w => W w
    | none => False) (k : ∀ w, vs.getLast? = some w → W w → P) : P := by
  cases e : vs.getLast? with
  | none => rw [e] at h; exact False.elim h
  | some w => rw [e] at h; exact k w e h
theorem bound_at {o : Option (List (Option V))} {W : List (Option V) → Prop} {P : Prop} (h : match o with
    | some ρ' => W ρ'
    | none => False) (k : ∀ ρ', o = some ρ' → W ρ' → P) : P := by
  cases o with
  | none => exact False.elim h
  | some ρ' => exact k ρ' rfl h
/-- the swapped stores of a row of names -/
theorem swapped_case {is : List Nat} {ts : List Expr} {k : Nat} {p : Pos} {y : Expr} (hn : chkNs c is ts = true) (hy : tupOk y = true) : swappedStores [.Tuple ts k p] y env = pure none ∨ swappedStores [.Tuple ts k p] y env = pure (some (ts.filterMap nmOf)) := by
  cases y with
  | Tuple vs k' p' =>
    unfold swappedStores
    simp only
    split
    · exact .inl rfl
    · split
      · exact .inl rfl
      · split
        · exact .inl rfl
        · rename_i h3
          split
          · exact .inl rfl
          · rename_i h4
            split
            · rename_i h5
              replace hy : (!vs.all (constantsAlone 8) || vs.all (foldedForSure 8)) = true := hy
              simp only [h5, Bool.not_true, Bool.false_or] at hy
              exact absurd hy h4
            · right
              rw [fm_eq _ ts (fun x hx => ?_) (chkNs_ok hn).2.1 ?_]
              · simp only [Bool.or_eq_true, not_or, bne_iff_ne, ne_eq, Decidable.not_not] at h3
                exact h3.1
              · cases x with
                | Name id pos =>
                  dsimp only [nmOf]
                  split
                  · exact .inl rfl
                  · exact .inr rfl
                | _ => exact .inr rfl
  | _ => exact .inl rfl

theorem ss_tup {is : List Nat} {e : E} {ts : List Expr} {k : Nat} {p pos : Pos} {y : Expr} (he : SE G d c e y) (hn : chkNs c is ts = true) (hnd : is.Nodup) (hcold : c.hot = false) (hy : tupOk y = true) : SS G d c (.assign (.tup is) e) (.Assign [.Tuple ts k p] y pos) := by
  intro A env lay Sys base st s F Q X K E hW hK hX
  simp only [ws_0, ws_1, ws_2, ws_3, ws_4, ws_5, ws_6, ws_7, ws_8, ws_9, ws_10, ws_11, ws_12, ws_13, ws_14, ws_15, ws_16, pk_ret, pk_next] at hW
  have hsole : swapsWithSole [.Tuple ts k p] y pos.line env = pure false := by cases y <;> rfl
  have htg : chkTg c (.tup is) (.Tuple ts k p) = true := (Bool.and_eq_true _ _).mpr ⟨(Bool.and_eq_true _ _).mpr ⟨hn, decide_eq_true hnd⟩, by rw [hcold]; rfl⟩
  rcases swapped_case (env := env) (k := k) (p := p) hn hy with hw | hw
  · refine asg_plain hsole hw rfl ((he F).weak _ _ _ E hW (fun v val s₁ q r k₁ _ => ?_) fun e s' q => hX e s' (q.toS F))
    apply bound_at q; clear q; intro ρ' hb q
    · refine st_tg F.cold F.eo (F.keeps k₁).sim htg hb r fun h' tk S' tc => ?_
      exact hK .next .next _ _ q .next ⟨F.rm, F.eo, F.us, S', F.own, F.cold⟩ ((Ps.ofKp k₁).trans (Ps.ofTc S' tc (bindT_len hb)))
  · refine PyProof.Rows.Assign_Tuple_swapped ((he F).weak _ _ _ E hW (fun v val s₁ q r k₁ _ => ?_) fun e s' q => hX e s' (q.toS F)) hsole hw
    apply bound_at q; clear q; intro ρ' hb q
    cases v with
    | tup vs =>
        apply RV.elim r; clear r; intro ad ys n h1 h2 h3 h4
        have hb : setAll is vs st.ρ = some ρ' := hb
        have l3 := (setAll_len hb).1
        have l4 := h4.size
        obtain ⟨n1, n2, n3⟩ := chkNs_ok hn
        have hlen : (ts.filterMap nmOf).length = ys.size := by omega
        rw [hlen]
        refine wpAny_unpackItems_tuple (F.cold hcold) (IsT.isTuple h2) fun h' hext => ?_
        have hk : HK s₁.heap h' := fun b o e => hext b o (Nat.ne_of_lt (Heap.lt_size e)) e
        have F₁ := F.keeps k₁
        have kk : Kp (FZ A Sys) s₁ { s₁ with heap := h' } := Kp.ofH hk
        have F₂ := F₁.keeps kk
        refine bind_each is.reverse (ts.filterMap nmOf).reverse vs.reverse _ st ρ' _ F.eo F₂.sim n1.rev (by rw [setAll_rev hnd l3]; exact hb) (h4.keeps hk).rev fun h'' tk S' tc => ?_
        exact hK .next .next _ _ q .next ⟨F.rm, F.eo, F.us, S', F.own, F.cold⟩ (((Ps.ofKp k₁).trans (Ps.ofKp kk)).trans (Ps.ofTc S' tc (setAll_len hb).2))
    | _ => cases hb

theorem ref_val {N : Addr → Prop} {h : Heap} {v : V} {x : Value} {W : Nat → Prop} {P : Value → Prop} (hW : match v with
    | .ref a => W a
    | _ => False) (r : RV N h v x) (k : ∀ a, W a → P (.ref a)) : P x := by
  cases r with
  | ref a => exact k a hW
  | _ => exact False.elim hW
theorem list_at {o : Option AO} {W : List V → Prop} {P : Prop} (h : match o with
    | some (.list vs) => W vs
    | _ => False) (k : ∀ vs, o = some (.list vs) → W vs → P) : P := by
  rcases o with _ | o
  · exact False.elim h
  · cases o with
    | list vs => exact k vs rfl h
    | _ => exact False.elim h
/-- a list that is kept gets other things -/
theorem put_lst {ad : Nat} {xs : Array Value} {n : Nat} {vs vs' : List V} {f : Array Value → Array Value} {tk : Nat} (F : Fx0 G d c A env lay Sys base st s) (hH : st.H ad = some (.list vs)) (hB : st.B ad = none) (c1 : IsL s.heap ad xs n) (hz : (f xs).size ≤ sizeLine) (r : RVs (NN st.H Sys) s.heap vs' (f xs).toList) :
    Fx0 G d c A env lay Sys base { st with H := st.H.upd ad (.list vs') } { s with heap := s.heap.update ad (Obj.mapSeq f), toks := tk } ∧ Ps false lay (FZ A Sys) st s { st with H := st.H.upd ad (.list vs') } { s with heap := s.heap.update ad (Obj.mapSeq f), toks := tk } := by
  have hk : ∀ b ob, b ≠ ad → s.heap.get? b = some ob → (s.heap.update ad (Obj.mapSeq f)).get? b = some ob := fun b ob nb e => (Heap.get?_update_other _ _ (Ne.symm nb)).trans e
  have hl' := c1.update f
  exact ⟨⟨F.rm, F.eo, F.us, F.sim.write hH hB hk (.list hl' hz (r.upd hH hk)), F.own, F.cold⟩, Ps.write hH hk (by rw [hl']; exact nofun)⟩
theorem ss_append {e : E} {a : Mine.A} {o z : Expr} {ap cp pos : Pos} (he : SE G d c e o) (ha : SA G d c a z) (hb : baseX o = true) (hz : noStar z = true) (hl : (ap.endLine == cp.line) = true) :
    SS G d c (.append e a) (.Expr (.Call (.Attribute o (Str.ofString "append") ap) [z] [] cp) pos) := by
  intro A env lay Sys base st s F Q X K E hW hK hX
  refine wpAny_Expr_any ?_ (by simp [interactive, F.eo.kind]) rfl
  have hbase : attributeBase o (Str.ofString "append") env (eval o env) = eval o env := by cases o <;> first | rfl | exact ff hb
  refine wpAny_Call_method (T := "list") (id := "list.append") hbase (by rw [starEach_cons hz]; rfl) hl PySem.F.plainAttrs_list PySem.F.slot_list_append PySem.F.type_list_append ?_
  refine (he F).weak _ _ _ E hW (fun v va s₁ h₁ r₁ k₁ fr => ?_) fun e s' q => hX e s' (q.toS F)
  clear fr
  have F₁ := F.keeps k₁
  apply ref_val h₁ r₁; clear h₁ r₁; intro ad h₁
  apply list_at h₁; clear h₁; intro vs0 hH h₁
  cases F₁.sim.objs _ _ hH with
  | list b1 b2 b3 =>
    refine ⟨b1.isList.typeIs, by rintro a ⟨⟩; exact ⟨_, b1, rfl⟩, ?_⟩
    rw [starEach_cons hz]
    refine P.append_list (ha F₁ _ _ _ E h₁ (fun w H' val s₂ q F₂ r k g => ?_) fun e s' q => hX e s' ((Rz.trans k₁ q).toS F))
    apply list_at q; clear q; intro vs hH' q
    cases F₂.sim.objs _ _ hH' with
    | @list xs n _ c1 c2 c3 =>
      have hp := put_lst (f := fun xs => xs.push val) (tk := s₂.toks) F₂.toFx0 hH' q.1 c1 (by rw [Array.size_push, ← c3.size]; exact q.2.1) (by rw [Array.toList_push]; exact c3.append (.cons r .nil))
      exact ⟨xs, n, c2, c1, hK .next .next _ _ q.2.2 .next hp.1 (((Ps.ofKp k₁).trans (Ps.ofK k g)).trans hp.2)⟩

theorem RVs.split {N : Addr → Prop} {h : Heap} {vs : List V} : ∀ {xs : List Value} {w : V}, RVs N h vs xs → vs.getLast? = some w → ∃ ys x, xs = ys ++ [x] ∧ RVs N h vs.dropLast ys ∧ RV N h w x := by
  induction vs with
  | nil => intro xs w r e; cases e
  | cons v vs ih =>
    intro xs w r e
    cases r with
    | cons r1 r2 =>
      cases vs with
      | nil => cases r2; cases e; exact ⟨[], _, rfl, .nil, r1⟩
      | cons u vs =>
        rw [List.getLast?_cons_cons] at e
        obtain ⟨ys, x, rfl, h1, h2⟩ := ih r2 e
        exact ⟨_ :: ys, x, rfl, .cons r1 h1, h2⟩

theorem erase_last {zs : List Value} {x : Value} : (zs ++ [x]).toArray.eraseIdxIfInBounds ((zs ++ [x]).toArray.size - 1) = zs.toArray := by
  apply Array.ext'
  have hlt : (zs ++ [x]).toArray.size - 1 < (zs ++ [x]).toArray.size := by simp
  rw [Array.eraseIdxIfInBounds, dif_pos hlt, Array.toList_eraseIdx]
  simp [List.eraseIdx_append_of_length_le]
theorem ss_pop {t : Tg} {e : E} {y : Str} {p ap cp pos : Pos} {tg : Expr} (he : SE G d c e (.Name y p)) (ht : chkTg c t tg = true) (hl : (ap.endLine == cp.line) = true) :
    SS G d c (.pop t e) (.Assign [tg] (.Call (.Attribute (.Name y p) (Str.ofString "pop") ap) [] [] cp) pos) := by
  intro A env lay Sys base st s F Q X K E hW hK hX
  have hsw : swappedStores [tg] (.Call (.Attribute (.Name y p) (Str.ofString "pop") ap) [] [] cp) env = pure none := by cases tg <;> rfl
  refine asg_plain rfl hsw (chkTg_star ht) ?_
  refine wpAny_Call_method (T := "list") (id := "list.pop") rfl rfl hl PySem.F.plainAttrs_list PySem.F.slot_list_pop PySem.F.type_list_pop ?_
  refine (he F).weak _ _ _ E hW (fun v va s₁ h₁ r₁ k₁ fr => ?_) fun e s' q => hX e s' (q.toS F)
  clear fr
  have F₁ := F.keeps k₁
  apply ref_val h₁ r₁; clear h₁ r₁; intro ad h₁
  apply list_at h₁; clear h₁; intro vs hH h₁
  apply last_at h₁; clear h₁; intro w hw h₁
  cases F₁.sim.objs _ _ hH with
  | @list xs n _ b1 b2 b3 =>
    refine ⟨b1.isList.typeIs, by rintro a ⟨⟩; exact ⟨_, b1, rfl⟩, ?_⟩
    obtain ⟨zs, x, hxs, r1, r2⟩ := b3.split hw
    have hx' : xs = (zs ++ [x]).toArray := by rw [← hxs]
    subst hx'
    refine P.pop_list b1 (y := x) (by simp) ?_ b2
    have hp := put_lst (f := fun xs' => xs'.eraseIdxIfInBounds ((zs ++ [x]).toArray.size - 1)) (tk := s₁.toks) F₁.toFx0 hH h₁.1 b1 (by rw [erase_last]; simp at b2 ⊢; omega) (vs' := vs.dropLast) (by rw [erase_last]; exact r1)
    apply bound_at h₁.2; intro ρ' hb h₂
    refine st_tg F.cold F.eo hp.1.sim ht hb (r2.ps F₁.sim hp.2) fun h' tk S'' tc => ?_
    exact hK .next .next _ _ h₂ .next ⟨F.rm, F.eo, F.us, S'', F.own, F.cold⟩ (((Ps.ofKp k₁).trans hp.2).trans (Ps.ofTc S'' tc (bindT_len hb)))

theorem set_row {l : Addr} {items : Array Value} {n : Nat} {k : Int} {t : Tok} {v : Value} {Q : Unit → Shared → Prop} (hl : IsL s.heap l items n) (h0 : 0 ≤ k) (hn : k < items.size) (hz : items.size ≤ sizeLine)
    (h : Q () { s with heap := s.heap.update l (Obj.mapSeq (·.setIfInBounds k.toNat v)) }) {E : Value → Shared → Prop} : wpAny (model G.prog G.w) A (setItem (.ref l) (.int k t) v) Q E s := by
  have hz' : items.size ≤ 16777216 := hz
  have hil := hl.isList
  unfold setItem
  refine wpAny_holding ?_
  refine wpAny_bind (wpAny_sequenceKey hil.typeIs (by decide) ?_)
  refine wpAny_bind (wpAny_callSpecial?_slot (name := Str.ofString "__setitem__") hil.typeIs slot_list_setitem (wpAny_call_entry slot_list_setitem hil.typeIs entry_list_setitem ?_ (args_list_setitem _ _ _)))
  show wpAny _ _ (Builtin.List.listSubscript? (.int k t) >>= _) _ _ s
  refine wpAny_bind (wpAny_listSubscript_int (fitsIndex_of h0 (by omega)) ?_)
  obtain ⟨j, rfl⟩ := Int.eq_ofNat_of_zero_le h0
  have hj : j < items.size := by omega
  show wpAny _ _ ((seqItemAt l j >>= fun r => pure (r.map (j, ·))) >>= _) _ _ s
  refine wpAny_bind (wpAny_bind (wpAny_seqItemAt hl rfl (wpAny_pure ?_)))
  rw [Array.getElem?_eq_getElem hj]
  show wpAny _ _ (setSeqItemAt l j v >>= _) _ _ s
  refine wpAny_bind (wpAny_setSeqItemAt hl rfl ?_)
  exact wpAny_pure ⟨.none, rfl, wpAny_pure h⟩

theorem RVs.set {N : Addr → Prop} {h : Heap} {w : V} {x : Value} (r : RV N h w x) : ∀ {vs : List V} {xs : List Value} (n : Nat), RVs N h vs xs → RVs N h (vs.set n w) (xs.set n x)
  | _, _, _, .nil => .nil
  | _, _, 0, .cons _ b => .cons r b
  | _, _, n + 1, .cons a b => .cons a (b.set r n)

theorem ss_setitem {e k v : E} {o i y : Expr} {p pos : Pos} (he : SE G d c e o) (hk : SE G d c k i) (hv : SE G d c v y) (hcp : isComp y = false) : SS G d c (.setitem e k v) (.Assign [.Subscript o i p] y pos) := by
  intro A env lay Sys base st s F Q X K E hW hK hX
  refine asg_plain (sole_none hcp) rfl rfl ?_
  refine (hv F).weak _ _ _ E hW (fun w val s₁ q₁ r₁ k₁ _ => ?_) fun e s' q => hX e s' (q.toS F)
  have F₁ := F.keeps k₁
  rw [assign_Subscript]
  refine wpAny_bind (wpAny_holding ((he F₁).weak _ _ _ E q₁ (fun u ov s₂ q₂ r₂ k₂ _ => ?_) fun e s' q => hX e s' ((Rz.trans k₁ q).toS F)))
  have F₂ := F₁.keeps k₂
  refine wpAny_bind (wpAny_holding ((hk F₂).weak _ _ _ E q₂ (fun kk iv s₃ q₃ r₃ k₃ _ => ?_) fun e s' q => hX e s' ((Rz.trans (k₁.trans k₂) q).toS F)))
  have F₃ := F₂.keeps k₃
  refine wpAny_bind (wpAny_standAt ?_)
  apply ref_val q₃ r₂; clear q₃ r₂; intro ad q₃
  apply int_val q₃ r₃; clear q₃ r₃; intro n t q₃
  obtain ⟨hB, h0, vs, hH, hlt, hQ⟩ := q₃
  cases F₃.sim.objs _ _ hH with
  | @list xs nn _ c1 c2 c3 =>
    refine wpAny_bind (wpAny_holding (set_row c1 h0 (by rw [← c3.size]; exact hlt) c2 (wpAny_release ?_)))
    have hp := put_lst (f := (·.setIfInBounds n.toNat val)) (tk := s₃.toks) F₃.toFx0 hH hB c1 (by rw [Array.size_setIfInBounds]; exact c2) (vs' := vs.set n.toNat w) (by rw [Array.toList_setIfInBounds]; exact c3.set (r₁.kz (k₂.trans k₃).hw) _)
    exact hK .next .next _ _ hQ .next hp.1 ((Ps.ofKp (k₁.trans (k₂.trans k₃))).trans hp.2)

theorem set_last {l : Addr} {items : Array Value} {n : Nat} {t : Tok} {v : Value} {Q : Unit → Shared → Prop} (hl : IsL s.heap l items n) (hn : 0 < items.size) (hz : items.size ≤ sizeLine)
    (h : Q () { s with heap := s.heap.update l (Obj.mapSeq (·.setIfInBounds (items.size - 1) v)) }) {E : Value → Shared → Prop} : wpAny (model G.prog G.w) A (setItem (.ref l) (.int (-1) t) v) Q E s := by
  have hil := hl.isList
  unfold setItem
  refine wpAny_holding ?_
  refine wpAny_bind (wpAny_sequenceKey hil.typeIs (by decide) ?_)
  refine wpAny_bind (wpAny_callSpecial?_slot (name := Str.ofString "__setitem__") hil.typeIs slot_list_setitem (wpAny_call_entry slot_list_setitem hil.typeIs entry_list_setitem ?_ (args_list_setitem _ _ _)))
  show wpAny _ _ (Builtin.List.listSubscript? (.int (-1) t) >>= _) _ _ s
  refine wpAny_bind (wpAny_listSubscript_int (by decide) ?_)
  show wpAny _ _ ((Builtin.List.listItems (.ref l) >>= fun xs => pure ((seqIndex? (-1) xs.size).bind fun j => xs[j]?.map (j, ·))) >>= _) _ _ s
  refine wpAny_bind (wpAny_bind (wpAny_listItems hl rfl (wpAny_pure ?_)))
  have e1 : seqIndex? (-1) items.size = some (items.size - 1) := by
    have q1 : (0 : Int) ≤ -1 + (items.size : Int) := by omega
    have q2 : -1 + (items.size : Int) < items.size := by omega
    simp only [seqIndex?, if_pos (show (-1 : Int) < 0 by decide), decide_eq_true q1, decide_eq_true q2, Bool.and_true, if_true]
    congr 1; omega
  have hj : items.size - 1 < items.size := by omega
  rw [e1, Option.bind_some, Array.getElem?_eq_getElem hj]
  show wpAny _ _ (setSeqItemAt l (items.size - 1) v >>= _) _ _ s
  refine wpAny_bind (wpAny_setSeqItemAt hl rfl ?_)
  exact wpAny_pure ⟨.none, rfl, wpAny_pure h⟩
theorem ss_setlast {e v : E} {o i y : Expr} {p pos : Pos} (he : SE G d c e o) (hk : SE G d c (.neg (.int 1)) i) (hv : SE G d c v y) (hcp : isComp y = false) : SS G d c (.setlast e v) (.Assign [.Subscript o i p] y pos) := by
  intro A env lay Sys base st s F Q X K E hW hK hX
  refine asg_plain (sole_none hcp) rfl rfl ?_
  refine (hv F).weak _ _ _ E hW (fun w val s₁ q₁ r₁ k₁ _ => ?_) fun e s' q => hX e s' (q.toS F)
  have F₁ := F.keeps k₁
  rw [assign_Subscript]
  refine wpAny_bind (wpAny_holding ((he F₁).weak _ _ _ E q₁ (fun u ov s₂ q₂ r₂ k₂ _ => ?_) fun e s' q => hX e s' ((Rz.trans k₁ q).toS F)))
  have F₂ := F₁.keeps k₂
  refine wpAny_bind (wpAny_holding ((hk F₂).weak (fun z => z = .int (-1)) (fun _ => False) _ E rfl (fun kk iv s₃ q₃ r₃ k₃ _ => ?_) fun e s' q => q.no.elim))
  have F₃ := F₂.keeps k₃
  subst q₃
  refine wpAny_bind (wpAny_standAt ?_)
  apply ref_val q₂ r₂; clear q₂ r₂; intro ad q₂
  obtain ⟨hB, q₂⟩ := q₂
  apply list_at q₂; clear q₂; intro vs hH q₂
  apply RV.elim r₃; clear r₃; intro t
  cases F₃.sim.objs _ _ hH with
  | @list xs nn _ c1 c2 c3 =>
    refine wpAny_bind (wpAny_holding (set_last c1 (c3.size ▸ List.length_pos_iff.mpr q₂.1) c2 (wpAny_release ?_)))
    have hp := put_lst (f := (·.setIfInBounds (xs.size - 1) val)) (tk := s₃.toks) F₃.toFx0 hH hB c1 (by rw [Array.size_setIfInBounds]; exact c2) (vs' := vs.set (vs.length - 1) w) (by rw [Array.toList_setIfInBounds, c3.size]; exact c3.set (r₁.kz (k₂.trans k₃).hw) _)
    exact hK .next .next _ _ q₂.2 .next hp.1 ((Ps.ofKp (k₁.trans (k₂.trans k₃))).trans hp.2)
end

end Mine
end

section
set_option autoImplicit false
namespace Mine
open PySem
end Mine
end

section
set_option autoImplicit false
namespace Mine
open PySem PyProof.Rows
section
variable {G : PG} {d : Nat} {c : Sc}
theorem ss_setattr {e v : E} {n : String} {o y : Expr} {p pos : Pos} (he : SE G d c e o) (hv : SE G d c v y) (hcp : isComp y = false) : SS G d c (.setattr e n v) (.Assign [.Attribute o (Str.ofString n) p] y pos) := by
  intro A env lay Sys base st s F Q X K E hW hK hX
  simp only [ws_0, ws_1, ws_2, ws_3, ws_4, ws_5, ws_6, ws_7, ws_8, ws_9, ws_10, ws_11, ws_12, ws_13, ws_14, ws_15, ws_16, pk_ret, pk_next] at hW
  refine plainObj_wpAny_Assign_Attribute ?_ (swaps_none hcp)
  refine (hv F).weak _ _ _ E hW (fun w val s₁ q₁ r₁ k₁ f₁ => ?_) fun e s' q => hX e s' (q.toS F)
  have F₁ := F.keeps k₁
  refine (he F₁).weak _ _ _ E q₁ (fun u ov s₂ q₂ r₂ k₂ f₂ => ?_) fun e s' q => hX e s' ((Rz.trans k₁ q).toS F)
  have F₂ := F₁.keeps k₂
  split at q₂
  · rename_i C ns ad
    obtain ⟨hB, q₂⟩ := q₂
    split at q₂
    · rename_i C' ns' vs hH
      obtain ⟨hh, rfl, rfl, q₂⟩ := q₂
      split at q₂
      · rename_i vs' hset
        cases r₂ with
        | iref n1 i =>
          rename_i x
          cases F₂.sim.objs _ _ hH with
          | inst o r =>
            rename_i xs
            obtain ⟨N0, mN, k, fs, R, hns⟩ := hasC_row F₂.top hh
            obtain ⟨z1, z2⟩ := R.name hns (set_mem hset)
            obtain ⟨nm, qn, bs, sn, sub, col, dd, k0, k1, k2, k3, k5, hC⟩ := R.cls.obj
            obtain ⟨ox, g1, g2, g3, g4, g5⟩ := id i
            have hxC : x ≠ C' := by
              rintro rfl
              rw [g1] at hC; cases hC
              exact g3 _ rfl
            refine store_attr (ns := ns'.map Str.ofString) PySem.F.store_object hC R.cls.ns R.sa z1 z2 hxC (i.inst o.2.2.2) (fun h' tk' I' hk' hsame => ?_) (fun y hy => ?_) (by rw [List.length_map, sizeLine_eq]; have := o.2.2.1; omega)
            · obtain ⟨o₁, e₁, c₁, dt₁, sl₁, dk₁⟩ := hsame ox g1
              have eo : o₁ = ox := by
                obtain ⟨oc, od, odt, osl⟩ := ox
                obtain ⟨oc', od', odt', osl'⟩ := o₁
                cases c₁; cases dt₁; cases sl₁; cases g4
                cases dk₁ _ rfl; rfl
              have hkk : ∀ b ob, b ≠ ad → s₂.heap.get? b = some ob → h'.get? b = some ob := fun b ob nb e => by
                by_cases hb : b = x
                · rw [hb, g1] at e; cases e; rw [hb, e₁, eo]
                · exact hk' b ob hb (fun o₀ d' e₀ ed => by
                    rw [g1] at e₀; cases e₀; rw [g4] at ed; cases ed; exact nb) e
              have r₁' : RV (NN (AH.upd st.H ad (.inst C' ns' vs')) Sys) h' w val := (r₁.kz k₂.hw).upd hH hkk
              obtain ⟨xs', p1, p2, p3⟩ := attr_set r₁' hset (r.upd hH hkk) o.2.1
              have hns' : NsOf h' ad ns' xs' := by
                refine ⟨o.1.trans p2.symm, o.2.1, o.2.2.1, ?_⟩
                obtain ⟨o', e', _, _, hd'⟩ := I'
                rw [e₁, eo] at e'; cases e'
                rcases hd' with ⟨hn0, _⟩ | ⟨d', hd', _, hns'⟩
                · rw [g4] at hn0; cases hn0
                · rw [g4] at hd'; cases hd'
                  rw [← funext p3]; exact hns'
              have S' := F₂.sim.write hH hB hkk (.inst hns' p1)
              exact hK .next .next _ _ q₂ .next ⟨F.rm, F.eo, F.us, S', F.own, F.cold⟩ ((Ps.ofKp (k₁.trans k₂)).trans (Ps.write hH hkk (fun e => hns'.ne e)))
            · have := lk_mem hy
              rwa [List.map_fst_zip (Nat.le_of_eq (by rw [List.length_map]; exact o.1))] at this
      · exact q₂.elim
    · exact q₂.elim
  · exact q₂.elim
end
end Mine
end

section
set_option autoImplicit false
namespace Mine
open PySem

/-- things off limits are turned -/
theorem Sim.turn {hsh : HFn} {T : Heap → Prop} {lay : Nat → Option Place} {Sys Z Mod : Addr → Prop} {base : Heap} {st : St} {h h' : Heap} (S : Sim hsh T lay Sys Z base st h) (hM : ∀ b, Mod b → Sys b) (hk : ∀ b o, ¬ Mod b → h.get? b = some o → h'.get? b = some o)
    (hlay : ∀ i p, lay i = some p → ¬ Mod p.addr) (hH : ∀ b, st.H b ≠ none → ¬ Mod b) (hbase : ∀ b, Mod b → base.get? b = none) (hlive : ∀ b, Mod b → h'.get? b ≠ none) : Sim hsh T lay Sys Z base st h' := by
  have hk' : ∀ b o, ¬ NN st.H Sys b → h.get? b = some o → h'.get? b = some o := fun b o nb e => hk b o (fun q => nb (.inr (hM b q))) e
  have hpl : ∀ i p, lay i = some p → ∀ o, h.get? p.addr = some o → h'.get? p.addr = some o := fun i p hp o e => hk _ o (hlay i p hp) e
  refine ⟨fun b o e => have nb : ¬ Mod b := fun q => by rw [hbase b q] at e; cases e
    ⟨fun n => hk b o nb ((S.keep b o e).1 n), let ⟨sl, e'⟩ := (S.keep b o e).2; ⟨sl, hk b _ nb e'⟩⟩, S.zs, S.top, fun i v p a b => ?_, fun i p a => ?_, S.inj, S.sys, fun a o e => ?_, S.own, fun a q e => ?_, S.ent, S.dis⟩
  · obtain ⟨val, x, y⟩ := S.vals i v p a b
    refine ⟨val, ?_, y.gen (fun _ q => .inl q) hk'⟩
    have hp := hpl i p b
    cases p with
    | loc L z =>
      obtain ⟨m, ⟨o, es, ep, ho, r⟩, e⟩ := x
      exact ⟨m, ⟨o, es, ep, hp o ho, r⟩, e⟩
    | cell cc =>
      obtain ⟨o, ho, r⟩ := x
      exact ⟨o, hp o ho, r⟩
  · have hp := hpl i p a
    have x := S.ok i p a
    cases p with
    | loc L z =>
      obtain ⟨m, o, es, ep, ho, r⟩ := x
      exact ⟨m, o, es, ep, hp o ho, r⟩
    | cell cc =>
      obtain ⟨v, o, ho, r⟩ := x
      exact ⟨v, o, hp o ho, r⟩
  · exact (S.objs a o e).gen (fun _ q => .inl q) hk' fun o' e' => hk a o' (hH a (by rw [e]; simp)) e'
  · by_cases hm : Mod a
    · exact hlive a hm e
    · cases q' : h.get? a with
      | none => exact S.live a q q'
      | some o => rw [hk a o hm q'] at e; cases e

theorem RzS.less {mg : Str → Option Value} {A : Around} {Sys Sys' : Addr → Prop} {base : Heap} {s s' : Shared} {X : String → St → Prop} {e : Value} (r : RzS mg A Sys' base s X e s') (hs : ∀ a, Sys a → Sys' a) (ez : FZ A Sys' = FZ A Sys) (hf : ∀ h, FrOk A Sys' h → FrOk A Sys h) : RzS mg A Sys base s X e s' := by cases r
/-- what the turns of a loop leave as it was -/
structure Lp (wr : List Addr) (lay : Nat → Option Place) (Z : Addr → Prop) (st : St) (h2 : Heap) (st' : St) (h : Heap) : Prop where
  old : ∀ b o, st.H b = none → (∀ i p, lay i = some p → b ≠ p.addr) → b ∉ wr → h2.get? b = some o → (¬ Z b → h.get? b = some o) ∧ ∃ sl, h.get? b = some { o with slots := sl }
  new : ∀ b, st'.H b ≠ none → st.H b = none → h2.get? b = none
  stay : ∀ b, st.H b ≠ none → st'.H b ≠ none
  B : st'.B = st.B
  len : st'.ρ.length = st.ρ.length
  ext : ∀ b, b ∉ wr → h2.get? b ≠ none → h.get? b ≠ none
section
variable {wr : List Addr} {lay : Nat → Option Place} {Z : Addr → Prop} {st st' : St} {h2 h : Heap}
theorem none_of {α : Type} {o : Option α} (h : ¬ o ≠ none) : o = none := by
  cases o with
  | none => rfl
  | some x => exact absurd nofun h
theorem Lp.refl : Lp wr lay Z st h2 st h2 := ⟨fun _ o _ _ _ e => ⟨fun _ => e, o.slots, e⟩, fun _ h e => absurd e h, fun _ h => h, rfl, rfl, fun _ _ h => h⟩
theorem Lp.e0 (x : Lp wr lay Z st h2 st' h) {b : Addr} {o : Obj} (e1 : st.H b = none) (e4 : h2.get? b = some o) : st'.H b = none := none_of fun q => by rw [x.new b q e1] at e4; cases e4
theorem Lp.turn {h3 : Heap} (x : Lp wr lay Z st h2 st' h) (hk : ∀ b o, b ∉ wr → h.get? b = some o → h3.get? b = some o) : Lp wr lay Z st h2 st' h3 :=
  ⟨fun b o e1 e2 e3 e4 => ⟨fun n => hk b o e3 ((x.old b o e1 e2 e3 e4).1 n), let ⟨sl, e⟩ := (x.old b o e1 e2 e3 e4).2; ⟨sl, hk b _ e3 e⟩⟩, x.new, x.stay, x.B, x.len, fun b w e q => x.ext b w e (none_of fun n => by
    obtain ⟨o, ho⟩ := Option.ne_none_iff_exists'.mp n
    rw [hk b o w ho] at q; cases q)⟩
theorem Lp.step {q : Bool} {st5 : St} {s s5 : Shared} (x : Lp wr lay Z st h2 st' s.heap) (hx : ∀ b ∈ wr, s.heap.get? b ≠ none) (p : Ps q lay Z st' s st5 s5) : Lp wr lay Z st h2 st5 s5.heap :=
  ⟨fun b o e1 e2 e3 e4 => ⟨fun n => (p.old b o (x.e0 e1 e4) e2 ((x.old b o e1 e2 e3 e4).1 n)).1 n, by
    obtain ⟨_, g1⟩ := (x.old b o e1 e2 e3 e4).2
    obtain ⟨sl, g2⟩ := (p.old b _ (x.e0 e1 e4) e2 g1).2
    exact ⟨sl, g2⟩⟩, fun b e1 e2 => none_of fun e => have n := p.new b e1 (none_of fun q => e (x.new b q e2)); x.ext b (fun w => hx b w n) e n, fun b e => p.stay b (x.stay b e), p.B.trans x.B, p.len.trans x.len, fun b w e => p.ext b (x.ext b w e)⟩
theorem Lp.ps {s : Shared} {tk : Nat} (x : Lp wr lay Z st h2 st' h) (k : HW Z s.heap h2) (hwr : ∀ b ∈ wr, s.heap.get? b = none) : Ps false lay Z st s st' { s with heap := h, toks := tk } :=
  ⟨⟨h, tk, rfl⟩, fun b o e1 e2 e => have nb : b ∉ wr := fun q => by rw [hwr b q] at e; cases e
    ⟨fun n => (x.old b o e1 e2 nb ((k b o e).1 n)).1 n, let ⟨_, g1⟩ := (k b o e).2; let ⟨sl, g2⟩ := (x.old b _ e1 e2 nb g1).2; ⟨sl, g2⟩⟩, fun b e1 e2 => k.ext (x.new b e1 e2), x.stay, x.B, x.len, fun b e => x.ext b (fun w => e (hwr b w)) fun q => e (k.ext q), nofun⟩
/-- what is tracked is not the walk's own -/
theorem Lp.trk {hsh : HFn} {N : AH} {s : Heap} (x : Lp wr lay Z st h2 st' h) (hw : ∀ b ∈ wr, h2.get? b ≠ none) (ho : ∀ b o, st.H b = some o → ∃ ob, s.get? b = some ob) (hwr : ∀ b ∈ wr, s.get? b = none) : ∀ b, st'.H b ≠ none → b ∉ wr := fun b hb w => hw b w (x.new b hb (none_of fun n => by
  obtain ⟨o, e⟩ := Option.ne_none_iff_exists'.mp n
  obtain ⟨ob, e'⟩ := ho b o e
  rw [hwr b w] at e'; cases e'))
end
section
variable {G : PG} {d : Nat} {c : Sc} {A : Around} {env : Env} {lay : Nat → Option Place} {Sys : Addr → Prop} {base : Heap} {st : St} {s : Shared}
theorem HdOk.hq {A : Around} {Sys : Addr → Prop} {h : Heap} (x : HdOk A Sys h) : Hq A h := x
/-- ahead of each turn -/
inductive InvF (G : PG) (A : Around) (lay : Nat → Option Place) (Sys Sys' : Addr → Prop) (base : Heap) (st : St) (s : Shared) (vs : List V) (wr : List Addr) (Si : Nat → Heap → Prop) (h2 : Heap) (Fo : List V → St → Prop) (n : Nat) (s' : Shared) : Prop
  | mk (i st' h tk) : n = vs.length - i → i ≤ vs.length → s' = { s with heap := h, toks := tk } → Fo (vs.drop i) st' → Si i h → Sim G.hf (TT G) lay Sys' (FZ A Sys') base st' h → FrOk A Sys' h → Lp wr lay (FZ A Sys) st h2 st' h → InvF G A lay Sys Sys' base st s vs wr Si h2 Fo n s'
theorem HdOk.at {h2 : Heap} {wr : List Addr} {st' : St} {h h' : Heap} {Sys' : Addr → Prop} (x : HdOk A Sys s.heap) (S : Sim G.hf (TT G) lay Sys (FZ A Sys) base st s.heap) (k2 : HW (FZ A Sys) s.heap h2) (hwr : ∀ b ∈ wr, s.heap.get? b = none) (hS' : ∀ a, Sys' a → Sys a ∨ a ∈ wr) (p : Lp wr lay (FZ A Sys) st h2 st' h)
    (hk : ∀ b o, b ∉ wr → (∀ i p, lay i = some p → b ≠ p.addr) → h.get? b = some o → h'.get? b = some o) : HdOk A Sys' h' := x
theorem ss_for {t : Tg} {it : It} {b : Bl} {tg y : Expr} {bs : List Stmt} {pos : Pos} (hi : SI G d c it y) (ht : chkTg c t tg = true) (hset : isSetX y = false) (hez : isEZ it = true → isTupX tg = true) (hdead : c.dead = false) (hb : SB G d c b bs) : SS G d c (.for t it b) (.For tg y bs [] pos) := by
  intro A env lay Sys base st s F Q X K E hW hK hX
  refine wpAny_For (hi F _ _ _ E hW (fun vs ds I s₂ hq k io => ?_) fun e s' q => hX e s' (q.toS F)) (folded_plain hset env)
  obtain ⟨hds, hfor⟩ := hq
  generalize isEZ it = nw at io hez
  obtain ⟨fp, wr, P, Mi, Si, W, hsi, hwr, hfp, hdep, hitem⟩ := io.ex
  obtain ⟨h2, t2, rfl, k2⟩ := id k
  generalize hSy : (fun a => Sys a ∨ a ∈ wr) = Sys'
  have hS' : ∀ a, Sys' a → Sys a ∨ a ∈ wr := fun a q => by rw [← hSy] at q; exact q
  have hS1 : ∀ a, Sys a → Sys' a := fun a q => hSy ▸ Or.inl q
  have hS2 : ∀ a, a ∈ wr → Sys' a := fun a q => hSy ▸ Or.inr q
  have hSw : ∀ a, Sys a → a ∉ wr := fun a q e => F.sim.live a q (hwr a e)
  have hbw : ∀ a, a ∈ wr → base.get? a = none := fun a q => F.sim.keep.ext (hwr a q)
  have ez : FZ A Sys' = FZ A Sys := funext fun b => propext ⟨fun q => ⟨q.1, F.za q.1⟩, fun q => ⟨q.1, hS1 _ q.2⟩⟩
  have hfz : ∀ b ∈ fp, ¬ ZA A b := fun b hb z => by
    by_cases hbw : b ∈ wr
    · exact F.nz (hwr b hbw) z
    · rcases hdep b hb hbw with q | q
      · exact q (.inr (F.za z))
      · exact q.2 (F.sim.dis b (F.za z))
  have frl : ∀ h, FrOk A Sys' h → FrOk A Sys h := fun h ⟨lv, l, e, f⟩ => ⟨fun a q => lv a (hS1 a q), l, e, fun v hv => let ⟨g1, L, o, g2, g3, g4⟩ := f v hv; ⟨g1, L, o, g2, F.za ⟨l, v, e, hv, g2⟩, g4⟩⟩
  have hpw : ∀ i p, lay i = some p → p.addr ∉ wr := fun i p hp => hSw _ (F.sim.sys i p hp).1
  have trk : ∀ {st' : St} {h : Heap}, Lp wr lay (FZ A Sys) st h2 st' h → ∀ b, st'.H b ≠ none → b ∉ wr := fun p => p.trk (hsh := G.hf) (N := st.H) (W.ex 0 h2 hsi) (fun b o e => (F.sim.objs b o e).exists) hwr
  -- out of the loop
  have fin : ∀ (f : Fl) (fl : Flow) (st' : St) (h h1 : Heap) (tk : Nat), Q f st' → FlR (NN st'.H Sys') h1 f fl → Sim G.hf (TT G) lay Sys' (FZ A Sys') base st' h → Lp wr lay (FZ A Sys) st h2 st' h1 → (∀ b o, b ∉ wr → h.get? b = some o → h1.get? b = some o) → K fl { s with heap := h1, toks := tk } := by
    intro f fl st' h h1 tk hq hfl hS p hk
    refine hK f fl st' _ hq ?_ ⟨F.rm, F.eo, F.us, ez ▸ Sim.leave (New := fun a => a ∈ wr) (hSy ▸ hS) (fun b q => F.za q.1) hk (fun i p hp => (F.sim.sys i p hp).1) hSw (trk p) hbw, F.own, F.cold⟩ (p.ps k2 hwr)
    cases hfl with
    | next => exact .next
    | brk => exact .brk
    | cont => exact .cont
    | ret r => exact .ret (r.less fun b q => q.elim .inl fun q => .inr (hS1 b q))
  have S0 : Sim G.hf (TT G) lay Sys' (FZ A Sys') base st h2 := by rw [ez, ← hSy]; exact F.sim.enter (New := fun a => a ∈ wr) k2 hwr (W.ex 0 h2 hsi)
  have f0 : FrOk A Sys' h2 := let ⟨_, l, e, f⟩ := F.fr.kz k2; ⟨S0.live, l, e, fun v hv => let ⟨g1, L, o, g2, g3, g4⟩ := f v hv; ⟨g1, L, o, g2, hS1 L g3, g4⟩⟩
  refine codeAny_forLoop_any (InvF G A lay Sys Sys' base st s vs wr Si h2 (forL t (fun st' K => WB (G.cx d) b st' K X) Q)) ?_ vs.length ⟨0, st, h2, t2, rfl, Nat.zero_le _, rfl, hfor, hsi, S0, f0, Lp.refl⟩
  rintro n s' ⟨i, st', h, tk, hn, hil, rfl, hfl, hs_i, hS, hfo, lp⟩
  have hyw : ∀ y, A.handled = some (.ref y) → y ∉ wr := fun y e hb => by
    rw [show A.handled = none from F.hdo hdead] at e; cases e
  rcases Nat.lt_or_ge i vs.length with hlt | hge
  · have hx : vs[i]? = some vs[i] := List.getElem?_eq_getElem hlt
    rw [List.drop_eq_getElem_cons hlt] at hfl
    apply bound_at hfl; clear hfl; intro ρ' hbd hfl
    refine W.item i _ _ _ hlt hs_i fun val h1 tk1 hMi hfr hk1 => ?_
    refine W.own i { s with heap := h1, toks := tk1 } val tg _ _ hMi hez fun h3 hs3 hP3 hk3 => ?_
    have hk03 : ∀ b o, b ∉ wr → h.get? b = some o → h3.get? b = some o := fun b o nb e => hk3 b o nb (hk1 b o nb e)
    have S3 : Sim G.hf (TT G) lay Sys' (FZ A Sys') base st' h3 := hS.turn (Mod := fun a => a ∈ wr) hS2 hk03 hpw (trk lp) hbw (W.ex _ _ hs3)
    have hval : RV (NN st'.H Sys') h3 vs[i] val := by
      have hgenN : ∀ b, NN st'.H Sys' b → NN st.H (fun a => Sys a ∨ a ∈ wr) b ∨ h2.get? b = none := fun b q => q.elim (fun q => by
        cases e : st.H b with
        | none => exact .inr (lp.new b q e)
        | some o => exact .inl (.inl (by rw [e]; exact nofun))) fun q => .inl (.inr (hS' b q))
      have hgenK : ∀ b o, ¬ NN st.H (fun a => Sys a ∨ a ∈ wr) b → h2.get? b = some o → h3.get? b = some o := fun b o nb e => hk03 b o (fun q => nb (.inr (.inr q))) ((lp.old b o (none_of fun q => nb (.inl q)) (fun i p hp hbp => nb (.inr (.inl (hbp ▸ (F.sim.sys i p hp).1)))) (fun q => nb (.inr (.inr q))) e).1 fun q => nb (.inr (.inl q.2)))
      have := hitem i vs[i] val h3 hx hP3
      cases nw with
      | false => exact RV.gen hgenN hgenK this
      | true =>
        obtain ⟨t', xs', n', ws, e1, rfl, e3, e4, e5⟩ := this
        rw [e1]
        have hft : h.get? t' = none := hfr rfl t' rfl
        exact .tup (fun q => q.elim (fun q => q (hS.fresh hft)) fun q => hS.live _ q hft) e3 e4 (RVs.gen hgenN hgenK e5)
    refine st_tg (s := { s with heap := h3, toks := tk1 }) F.cold F.eo S3 ht hbd hval fun h4 tk4 S4 tc => ?_
    have P4 : ∀ q, Ps q lay (FZ A Sys') st' { s with heap := h3, toks := tk1 } { st' with ρ := ρ' } { s with heap := h4, toks := tk4 } := fun q => Ps.ofTc (s := { s with heap := h3, toks := tk1 }) (tk := tk4) S4 tc (bindT_len hbd)
    have f3 : FrOk A Sys' h3 := by
      obtain ⟨lv, l, e, f⟩ := hfo
      refine ⟨S3.live, l, e, fun v hv => ?_⟩
      obtain ⟨g1, L, o, g2, g3, g4, g5⟩ := f v hv
      exact ⟨g1, L, o, g2, g3, hk03 L o (hSw L (F.za ⟨l, v, e, hv, g2⟩)) g4, g5⟩
    have F4 : Fx G d c A env lay Sys' base { st' with ρ := ρ' } { s with heap := h4, toks := tk4 } := ⟨⟨F.rm, F.eo, F.us, S4, F.own, F.cold⟩, FrOk.ps (s := { s with heap := h3, toks := tk1 }) f3 S3 S4 (P4 true), .inr ((F.hdo hdead).at F.sim k2 hwr hS' lp fun b o nw nl e => tc b o (fun i _ => nl i) (hk03 b o nw e))⟩
    refine hb F4 _ X _ _ hfl (fun f fl st5 s5 q5 r5 F5 p5 => ?_) fun e s' q => RzS.pass ((q.less hS1 ez frl).trans ⟨h4, tk4, rfl⟩) F hX
    obtain ⟨h5, t5, rfl⟩ := p5.sh
    have f5 := FrOk.ps F4.fr F4.sim F5.sim p5
    have P5 := (P4 _).trans p5
    have lp5 : Lp wr lay (FZ A Sys) st h2 st5 h5 := Lp.step (s := { s with heap := h3, toks := tk1 }) (lp.turn hk03) (W.ex _ _ hs3) (ez ▸ P5)
    have hsi5 : Si (i + 1) h5 := W.frame _ _ _ hs3 fun b hbf o e => by
      by_cases q : b ∈ wr
      · exact (P5.old b o (none_of fun n => trk lp b n q) (fun i p hp hbp => hpw i p hp (hbp ▸ q)) e).1 fun z => hfz b hbf z.1
      · rcases hdep b hbf q with q' | ⟨q1, q2⟩
        · refine (P5.old b o (none_of fun n => ?_) (fun i p hp hbp => q' (.inr (hbp ▸ (F.sim.sys i p hp).1))) e).1 fun z => hfz b hbf z.1
          obtain ⟨o2, ho2⟩ := hfp b hbf
          have := lp.new b n (none_of fun m => q' (.inl m))
          rw [show ({ s with heap := h2, toks := t2 } : Shared).heap = h2 from rfl, this] at ho2; cases ho2
        · rcases hds with hqt | hds
          · exact P5.qt hqt b o (fun i p hp hbp => q2 (hbp ▸ (F.sim.sys i p hp).2.2)) e fun z => hfz b hbf z.1
          · obtain ⟨ob, hob⟩ := F.sim.ent b (hds b q1)
            have h3b : h3.get? b = some ob := (S3.keep _ _ hob).1 fun z => hfz b hbf z.1
            rw [h3b] at e; cases e
            exact (F5.sim.keep _ _ hob).1 fun z => hfz b hbf z.1
    have go : forL t (fun st' K => WB (G.cx d) b st' K X) Q (vs.drop (i + 1)) st5 → ∃ m, m < n ∧ InvF G A lay Sys Sys' base st s vs wr Si h2 (forL t (fun st' K => WB (G.cx d) b st' K X) Q) m { s with heap := h5, toks := t5 } := fun q5 => ⟨vs.length - (i + 1), by omega, i + 1, st5, h5, t5, rfl, hlt, rfl, q5, hsi5, F5.sim, f5, lp5⟩
    cases r5 with
    | next => exact go q5
    | cont => exact go q5
    | brk => exact fin .next .next st5 h5 h5 t5 q5 .next F5.sim lp5 fun _ _ _ e => e
    | ret r => exact fin (.ret _) (.ret _) st5 h5 h5 t5 q5 (.ret r) F5.sim lp5 fun _ _ _ e => e
  · have hi' : i = vs.length := Nat.le_antisymm hil hge
    subst hi'
    rw [List.drop_length] at hfl
    refine W.done _ _ _ (HdOk.hq ((F.hdo hdead).at (Sys' := Sys') F.sim k2 hwr hS' lp fun b o _ _ e => e)) hyw hs_i fun h1 tk1 hk1 => wpAny_execs_nil ?_
    exact fin .next .next st' h h1 tk1 hfl .next hS (lp.turn hk1) hk1
end

end Mine
end

section
set_option autoImplicit false
set_option maxRecDepth 100000
namespace Mine
open PySem

end Mine
end

section
set_option autoImplicit false
namespace Mine
open PySem

section
variable {G : PG} {d : Nat}

theorem WS_var {C : Cx} {i : Nat} {e : E} {st : St} {Q : Fl → St → Prop} {X : String → St → Prop} (h : WS C (.assign (.var i) e) st Q X) : WS C (.own i (.pure e)) st Q X := h

mutual
theorem sndS (hc : CallSnd G d) : ∀ (m : S) (c : Sc) (x : Stmt), c.fns = G.tbl.map (·.1) ∧ c.xs = G.xs ∧ c.hots = G.hots → chkS c m x = true → SS G d c m x
  | .expr e, c, x, hf, h => by
    apply onExpr_elim h; clear h; intro y p h
    simp only [Bool.and_eq_true, Bool.not_eq_true'] at h
    exact ss_expr (sndE hc e c _ hf h.1).1 h.2
  | .assign t e, c, x, hf, h => by
    apply onAssign_elim h; clear h; intro tg y p h
    · apply and5_elim h; clear h; intro h1 h2 h3 h4 h5
      cases t with
      | var i =>
        intro F Q X K E hW hK hX
        exact snd_own hc hf h1 (a := .pure e) h3 h4 F Q X K E (WS_var hW) hK hX
      | tup is =>
        apply onTup_elim h1; clear h1; intro xs k p' h1
        simp only [Bool.and_eq_true, decide_eq_true_eq, Bool.not_eq_true'] at h1
        exact ss_tup (sndE hc e c _ hf h3).1 h1.1.1 h1.1.2 h1.2 h2
  | .own i a, c, x, hf, h => by
    apply onAssign_elim h; clear h; intro tg y p h
    simp only [Bool.and_eq_true] at h
    exact snd_own hc hf h.1.1 h.1.2 h.2
  | .append e a, c, x, hf, h => by
    apply onExpr_elim h; clear h; intro y p h
    apply onCall_elim h; clear h; intro g xs ks cp h
    apply and2_elim h; clear h; intro hk h
    apply one_elim h; clear h; intro z h
    apply onAttr_elim h; clear h; intro o n ap h
    cases ks with
    | cons => exact ff hk
    | nil =>
      apply and6_elim h; clear h; intro e0_ h2 h3 h4 h5 h6
      try simp only [decide_eq_true_eq] at e0_
      try simp only [decide_eq_true_eq] at h2
      try simp only [decide_eq_true_eq] at h3
      try simp only [decide_eq_true_eq] at h4
      try simp only [decide_eq_true_eq] at h5
      try simp only [decide_eq_true_eq] at h6
      subst e0_
      exact ss_append (sndE hc e c _ hf h5).1 (sndA hc a c _ hf h6) h3 h4 h2
  | .pop t e, c, x, hf, h => by
    apply onAssign_elim h; clear h; intro tg y p h
    apply onCall_elim h; clear h; intro g xs ks cp h
    apply and2_elim h; clear h; intro hk h
    apply onAttr_elim h; clear h; intro o n ap h
    apply and2_elim hk; clear hk; intro hk hx
    cases ks with
    | cons => exact ff hk
    | nil =>
      cases xs with
      | cons => exact ff hx
      | nil =>
        apply and5_elim h; clear h; intro h1 e1_ h3 h0 h4
        try simp only [decide_eq_true_eq] at h1
        try simp only [decide_eq_true_eq] at e1_
        try simp only [decide_eq_true_eq] at h3
        try simp only [decide_eq_true_eq] at h0
        try simp only [decide_eq_true_eq] at h4
        subst e1_
        obtain ⟨y', p', rfl⟩ := isNameX_inv h0
        exact ss_pop (sndE hc e c _ hf h4).1 h1 h3
  | .setitem a b e, c, x, hf, h => by
    apply onAssign_elim h; clear h; intro tg y p h
    apply onSub_elim h; clear h; intro o i p' h
    apply and4_elim h; clear h; intro h1 h2 h3 h4
    try simp only [Bool.not_eq_true'] at h1
    try simp only [Bool.not_eq_true'] at h2
    try simp only [Bool.not_eq_true'] at h3
    try simp only [Bool.not_eq_true'] at h4
    exact ss_setitem (sndE hc a c _ hf h1).1 (sndE hc b c _ hf h2).1 (sndE hc e c _ hf h3).1 h4
  | .setkey a b e, c, x, hf, h => ff h
  | .setlast a e, c, x, hf, h => by
    apply onAssign_elim h; clear h; intro tg y p h
    apply onSub_elim h; clear h; intro o i p' h
    apply and4_elim h; clear h; intro h1 h2 h3 h4
    try simp only [Bool.not_eq_true'] at h1
    try simp only [Bool.not_eq_true'] at h2
    try simp only [Bool.not_eq_true'] at h3
    try simp only [Bool.not_eq_true'] at h4
    exact ss_setlast (sndE hc a c _ hf h1).1 (sndE hc (.neg (.int 1)) c _ hf h2).1 (sndE hc e c _ hf h3).1 h4
  | .setattr e n v, c, x, hf, h => by
    apply onAssign_elim h; clear h; intro tg y p h
    apply onAttr_elim h; clear h; intro o m ap h
    apply and5_elim h; clear h; intro e0_ _ h1 h2 h3
    try simp only [Bool.not_eq_true', decide_eq_true_eq] at e0_
    try simp only [Bool.not_eq_true', decide_eq_true_eq] at h1
    try simp only [Bool.not_eq_true', decide_eq_true_eq] at h2
    try simp only [Bool.not_eq_true', decide_eq_true_eq] at h3
    subst e0_
    exact ss_setattr (sndE hc e c _ hf h1).1 (sndE hc v c _ hf h2).1 h3
  | .ite t a b, c, x, hf, h => by
    apply onIfS_elim h; clear h; intro y bs os p h
    apply and3_elim h; clear h; intro h1 h2 h3
    exact ss_ite (sndE hc t c _ hf h1).2 (sndB hc a c _ hf h2) (sndB hc b c _ hf h3)
  | .while t b, c, x, hf, h => by
    apply onWhile_elim h; clear h; intro y bs p h
    simp only [Bool.and_eq_true] at h
    exact ss_while (sndE hc t c _ hf h.1).2 (sndB hc b c _ hf h.2)
  | .for t it b, c, x, hf, h => by
    apply onFor_elim h; clear h; intro tg y bs p h
    apply and6_elim h; clear h; intro h1 h2 h3 h5 h4 h6
    try simp only [Bool.not_eq_true'] at h1
    try simp only [Bool.not_eq_true'] at h2
    try simp only [Bool.not_eq_true'] at h3
    try simp only [Bool.not_eq_true'] at h5
    try simp only [Bool.not_eq_true'] at h4
    try simp only [Bool.not_eq_true'] at h6
    exact ss_for ((sndI hc it c _ hf h2).1 (ezOk_walk h5)) h1 h3 (ezOk_inv h5) h6 (sndB hc b c _ hf h4)
  | .ret e, c, x, hf, h => by
    apply onRet_elim h; clear h; intro y p h
    exact ss_ret (sndE hc e c _ hf h).1
  | .retO e, c, x, hf, h => ff h
  | .raise k e, c, x, hf, h => ss_raise
  | .rz k m, c, x, hf, h => ff h
  | .tryEx e k i b, c, x, hf, h => ff h
theorem sndB (hc : CallSnd G d) : ∀ (b : Bl) (c : Sc) (xs : List Stmt), c.fns = G.tbl.map (·.1) ∧ c.xs = G.xs ∧ c.hots = G.hots → chkB c b xs = true → SB G d c b xs
  | .nil, c, xs, hf, h => by
    cases xs with
    | nil => exact sb_nil
    | cons => exact ff h
  | .cons m b, c, xs, hf, h => by
    cases xs with
    | nil => exact ff h
    | cons x r =>
      replace h := (Bool.and_eq_true _ _).mp h
      exact sb_cons (sndS hc m c _ hf h.1) (sndB hc b c _ hf h.2)
end
end

end Mine
end

section
set_option autoImplicit false
namespace Mine
open PySem

theorem cells_some : ∀ {names : List (Str × NameKind)} {n : Nat} {acc : List (Str × Addr)} {x : Str}, (names.lookup x = some .cell ∧ (names.map (·.1)).Nodup) ∨ (acc.lookup x).isSome → ((cellsFrom n names acc).lookup x).isSome
  | [], _, _, _, h => by
    rcases h with ⟨h, _⟩ | h
    · simp at h
    · exact h
  | (y, k) :: r, n, acc, x, h => by
    unfold cellsFrom
    split
    · rename_i hk
      refine cells_some ?_
      rcases h with ⟨h, hn⟩ | h
      · simp only [List.lookup_cons] at h
        cases hx : x == y with
        | true => right; simp only [List.lookup_cons, hx]; rfl
        | false => rw [hx] at h; simp only [List.map_cons, List.nodup_cons] at hn; exact .inl ⟨h, hn.2⟩
      · right
        simp only [List.lookup_cons]
        split
        · rfl
        · exact h
    · rename_i hk
      refine cells_some ?_
      rcases h with ⟨h, hn⟩ | h
      · simp only [List.lookup_cons] at h
        cases hx : x == y with
        | true => rw [hx] at h; simp only at h; cases h; simp at hk
        | false => rw [hx] at h; simp only [List.map_cons, List.nodup_cons] at hn; exact .inl ⟨h, hn.2⟩
      · exact .inr h

theorem bindL_get {k : Str → Option NameKind} : ∀ {names : List Str} {vals : List Value} {m : Str → Option Value} {x : Str}, names.Nodup → k x = some .local → bindL k (names.zip vals) m x = (((names.zip vals).lookup x).or (m x))
  | [], _, _, _, _, _ => by simp [bindL]
  | _ :: _, [], _, _, _, _ => by simp [bindL]
  | n :: ns, v :: vs, m, x, hn, hk => by
    rw [List.nodup_cons] at hn
    simp only [List.zip_cons_cons, bindL]
    rw [bindL_get hn.2 hk]
    simp only [List.lookup_cons]
    cases hx : x == n with
    | true =>
      have : x = n := by simpa using hx
      subst this
      have hnone : (ns.zip vs).lookup x = none := by
        cases e : (ns.zip vs).lookup x with
        | none => rfl
        | some w => exact absurd (List.of_mem_zip (mem_lookup e)).1 hn.1
      simp [hnone, hk]
    | false =>
      have hne : x ≠ n := by simpa using hx
      simp only
      congr 1
      split
      · simp [hne]
      · rfl
theorem bindC_get {k : Str → Option NameKind} : ∀ {names : List Str} {vals : List Value} {m : Str → Option Value} {x : Str}, names.Nodup → k x ≠ some .local → bindC k (names.zip vals) m x = (((names.zip vals).lookup x).or (m x))
  | [], _, _, _, _, _ => by simp [bindC]
  | _ :: _, [], _, _, _, _ => by simp [bindC]
  | n :: ns, v :: vs, m, x, hn, hk => by
    rw [List.nodup_cons] at hn
    simp only [List.zip_cons_cons, bindC]
    rw [bindC_get hn.2 hk]
    simp only [List.lookup_cons]
    cases hx : x == n with
    | true =>
      have : x = n := by simpa using hx
      subst this
      have hnone : (ns.zip vs).lookup x = none := by
        cases e : (ns.zip vs).lookup x with
        | none => rfl
        | some w => exact absurd (List.of_mem_zip (mem_lookup e)).1 hn.1
      simp [hnone, hk]
    | false =>
      have hne : x ≠ n := by simpa using hx
      simp only
      congr 1
      split
      · rfl
      · simp [hne]

theorem lookup_zip_at {β : Type} : ∀ {names : List Str} {vals : List β} {i : Nat} {x : Str} {v : β}, names.Nodup → names[i]? = some x → vals[i]? = some v → (names.zip vals).lookup x = some v
  | [], _, _, _, _, _, h, _ => by simp at h
  | _ :: _, [], _, _, _, _, _, h => by simp at h
  | n :: ns, w :: ws, 0, x, v, _, h1, h2 => by simp at h1 h2; subst h1 h2; simp
  | n :: ns, w :: ws, i + 1, x, v, hn, h1, h2 => by
    rw [List.nodup_cons] at hn
    simp only [List.getElem?_cons_succ] at h1 h2
    have hne : x ≠ n := fun e => hn.1 (e ▸ List.mem_of_getElem? h1)
    simp only [List.zip_cons_cons, List.lookup_cons]
    rw [show (x == n) = false from by simpa using hne]
    exact lookup_zip_at hn.2 h1 h2
theorem lookup_range {xs : List Str} {x : Str} {i : Nat} (h : (xs.zip (List.range xs.length)).lookup x = some i) : xs[i]? = some x := by
  rw [List.range_eq_range'] at h
  obtain ⟨j, h1, h2⟩ := lookup_zip h
  rw [h2, Nat.zero_add]; exact h1

structure FnOk (fns xs : List String) (hot : Bool) (hots : List String) (fn : Fn) (dr : DefRec) : Prop where
  pos : dr.params.posonlyargs = []
  kwo : dr.params.kwonlyargs = []
  va : dr.params.vararg = none
  kw : dr.params.kwarg = none
  args : dr.params.args.map (·.arg) = (fn.vars.map Str.ofString).take fn.np
  le : fn.np ≤ fn.vars.length
  nd : (fn.vars.map Str.ofString).Nodup
  st : ∀ x ∈ fn.vars.map Str.ofString, (dr.scope.names.lookup x = some .local ∨ dr.scope.names.lookup x = some .cell) ∧ (x == ("__classdict__" : Str)) = false
  kind : dr.scope.kind = .function
  gen : dr.scope.isGenerator = false
  cor : dr.scope.isCoroutine = false
  names : (dr.scope.names.map (·.1)).Nodup
  nv : fn.vars.length ≤ fn.nv
  body : chkB (fnSc fns xs hot hots fn dr) fn.body dr.body = true
theorem fnOk {fns xs : List String} {hot : Bool} {hots : List String} {fn : Fn} {dr : DefRec} (h : chkFn fns xs hot hots fn dr = true) : FnOk fns xs hot hots fn dr := by
  unfold chkFn plainParams at h
  simp only [Bool.and_eq_true, decide_eq_true_eq, List.all_eq_true, Bool.not_eq_true'] at h
  obtain ⟨⟨⟨⟨⟨⟨⟨⟨⟨⟨⟨⟨h1, h2⟩, h3⟩, h4⟩, h5⟩, h6⟩, h7⟩, h8⟩, h9⟩, h10⟩, h11⟩, h12⟩, h13⟩ := h
  obtain ⟨⟨⟨⟨⟨a1, a2⟩, a3⟩, a4⟩, a5⟩, a6⟩ := h1
  refine ⟨by simpa using a1, by simpa using a3, by simpa using a2, by simpa using a4, h2, h3, h5, fun x hx => ?_, h7, h8, h9, h11, h12, h13⟩
  obtain ⟨q1, q2⟩ := h6 x hx
  simp only [canStore, Bool.or_eq_true, decide_eq_true_eq] at q1
  exact ⟨q1, q2⟩

/-- where a function's names stand -/
noncomputable def layF (names : List (Str × NameKind)) (cells : List (Str × Addr)) (L : Addr) (xs : List Str) : Nat → Option Place := fun i => match xs[i]? with
  | none => none
  | some x => if names.lookup x = some .local then some (.loc L x) else (cells.lookup x).map .cell

theorem RmC.deeper {d : Nat} {A : Around} {env : Env} (R : RmC (d + 1) A) (h1 : env.scope.isGenerator = false) (h2 : env.scope.isCoroutine = false) (h3 : env.builtins = builtinsNs) (h4 : env.globals = mainGlobals) : RmF d (A.deeper env) := by
  obtain ⟨l, hf⟩ := R.fr
  refine ⟨⟨by have := R.depth; show A.depth + 1 + d + 150 < recursionLimit; omega, by have := R.units; show A.units + 3 + 20 * d + 200 < cLine; omega⟩, env, l, ?_, h1, h2, h3, h4⟩
  show A.frames.map (env :: ·) = _
  rw [hf]; rfl

theorem call_step {G : PG} {d : Nat} (hc : CallSnd G d) : CallSnd G (d + 1) := by
  intro A H Sys s f fa vs vals R T hO hlive hdis hfr hhd hcold hmg hrv Q X K E hW hK hX
  obtain ⟨b0, T0, k0, n0⟩ := T
  have T := T0.keeps k0
  have ho := hO
  simp only [PG.cx, cxN, runN] at hW
  split at hW
  · exact hW.elim
  · rename_i fn hfn
    obtain ⟨hnp, hnv, hW⟩ := hW
    obtain ⟨dr, a, o, pm, code, doc, h1, h2, h3, h4, h5⟩ := T.fn f fn hfn
    rw [hmg] at h1; cases h1
    have O := fnOk h5
    have hlen := hrv.length
    let xs := fn.vars.map Str.ofString
    have hxl : xs.length = fn.vars.length := by simp [xs]
    have htake : (xs.take fn.np).length = vals.length := by rw [List.length_take, hxl]; have := O.le; omega
    have hndt : (xs.take fn.np).Nodup := List.Nodup.sublist (List.take_sublist _ _) O.nd
    have hkind : ∀ x ∈ (xs.take fn.np).zip vals, dr.scope.names.lookup x.1 = some .local ∨ (dr.scope.names.lookup x.1 = some .cell ∧ ((cellsFrom (s.heap.objs.size + 1) dr.scope.names []).lookup x.1).isSome = true) := by
      intro x hx
      have hm : x.1 ∈ xs := List.mem_of_mem_take (List.of_mem_zip hx).1
      rcases (O.st x.1 hm).1 with q | q
      · exact .inl q
      · exact .inr ⟨q, cells_some (.inl ⟨q, O.names⟩)⟩
    refine wpAny_call (codeAny_call_cells (fd := Calls.docDef dr.name dr.params dr.body dr.scope pm code doc) (binds := (xs.take fn.np).zip vals) (by have := R.depth; omega) h2 h3 T.nolimit h4 rfl (bind_plain O.pos O.args O.kwo O.va O.kw rfl htake hndt) rfl hkind (fun s₁ x => ?_) O.cor O.gen O.kind)
    generalize hEnv : callEnvC (Calls.docDef dr.name dr.params dr.body dr.scope pm code doc) s.heap.objs.size fa = env at x ⊢
    have e1 : env.locals = s.heap.objs.size := by rw [← hEnv]; rfl
    have e2 : env.cells = cellsFrom (s.heap.objs.size + 1) dr.scope.names [] := by rw [← hEnv]; rfl
    have e3 : env.scope = dr.scope := by rw [← hEnv]; rfl
    have e4 : env.globals = mainGlobals := by rw [← hEnv]; rfl
    have e5 : env.builtins = builtinsNs := by rw [← hEnv]; rfl
    have e6 : ∀ y, env.kindOf y = dr.scope.names.lookup y := fun y => by unfold Env.kindOf; rw [e3]
    -- the frame's places
    let lay : Nat → Option Place := layF dr.scope.names env.cells env.locals xs
    let New : Addr → Prop := fun b => b = env.locals ∨ ∃ y, env.cells.lookup y = some b
    let Sys' : Addr → Prop := fun a => Sys a ∨ New a
    have hLf : s.heap.get? env.locals = none := by rw [e1]; exact fresh_size _
    have hcf : ∀ y b, env.cells.lookup y = some b → s.heap.get? b = none := fun y b q => by
      have h' : env.locals < b := x.above y b (mem_of_lookup q)
      rw [e1] at h'
      exact Heap.get?_none_of_le (Nat.le_of_lt h')
    have hNf : ∀ b, New b → s.heap.get? b = none := by
      rintro b (rfl | ⟨y, q⟩)
      · exact hLf
      · exact hcf y b q
    have hNl : ∀ b, New b → s₁.heap.get? b ≠ none := by
      rintro b (rfl | ⟨y, q⟩) e
      · obtain ⟨o, es, ep, ho', _⟩ := x.toInCall.ns
        rw [ho'] at e; cases e
      · obtain ⟨o, ho', _⟩ := x.cell y b q
        rw [ho'] at e; cases e
    have hk : HK s.heap s₁.heap := x.toInCall.keep
    have hHf : ∀ b, s.heap.get? b = none → H b = none := fun b e => by
      cases q : H b with
      | none => rfl
      | some o =>
        obtain ⟨ob, e'⟩ := (ho b o q).exists
        rw [e] at e'; cases e'
    have hlay : ∀ i p, lay i = some p → ∃ y, xs[i]? = some y ∧ ((dr.scope.names.lookup y = some .local ∧ p = .loc env.locals y) ∨ (dr.scope.names.lookup y = some .cell ∧ ∃ b, env.cells.lookup y = some b ∧ p = .cell b)) := by
      intro i p hp
      simp only [lay, layF] at hp
      split at hp
      · cases hp
      · rename_i y hy
        refine ⟨y, hy, ?_⟩
        split at hp
        · rename_i hl; cases hp; exact .inl ⟨hl, rfl⟩
        · rename_i hl
          simp only [Option.map_eq_some_iff] at hp
          obtain ⟨b, hb, rfl⟩ := hp
          exact .inr ⟨((O.st y (List.mem_of_getElem? hy)).1).resolve_left hl, b, hb, rfl⟩
    have hplN : ∀ i p, lay i = some p → New p.addr := by
      intro i p hp
      obtain ⟨y, _, ⟨_, rfl⟩ | ⟨_, b, hb, rfl⟩⟩ := hlay i p hp
      · exact .inl rfl
      · exact .inr ⟨y, hb⟩
    have hN : ∀ b, NN H Sys' b → NN H Sys b ∨ s.heap.get? b = none := by
      rintro b (q | q | q)
      · exact .inl (.inl q)
      · exact .inl (.inr q)
      · exact .inr (hNf b q)
    have hrv' : RVs (NN H Sys') s₁.heap vs vals := hrv.gen hN fun b o _ e => hk b o e
    have S : Sim G.hf (TT G) lay Sys' (FZ (A.deeper env) Sys') s.heap ⟨vs.map some ++ List.replicate (fn.nv - fn.np) none, H, H⟩ s₁.heap := by
      refine ⟨.of hk, fun _ q => q.2, ⟨b0, T0, k0, fun a q => q.elim (fun q => q.elim (fun q => n0 a (.inr q)) fun q => (HW.of (Z := Sys) k0).ext (hNf a q)) fun q => n0 a (.inl q)⟩, fun i v p hv hp => ?_, fun i p hp => ?_, fun i j p hi hj => ?_, fun i p hp => ⟨.inr (hplN i p hp), hNf _ (hplN i p hp), hHf _ (hNf _ (hplN i p hp))⟩, fun a o e => ?_, fun a h1 h2 => absurd h2 h1, fun a q e => ?_, fun a q => ?_, fun a q => q.elim (hdis a) fun q => hHf _ (hNf a q)⟩
      · have hv' : vs[i]? = some v := by
          have hv : (vs.map some ++ List.replicate (fn.nv - fn.np) none)[i]? = some (some v) := hv
          rw [List.getElem?_append] at hv
          split at hv
          · simpa using hv
          · rw [List.getElem?_replicate] at hv
            split at hv <;> simp at hv
        obtain ⟨val, hval, r⟩ := hrv'.get i hv'
        refine ⟨val, ?_, r⟩
        have hi : i < fn.np := by
          obtain ⟨q, _⟩ := List.getElem?_eq_some_iff.mp hv'
          omega
        obtain ⟨y, hy, hc'⟩ := hlay i p hp
        have hyt : (xs.take fn.np)[i]? = some y := by rw [List.getElem?_take, if_pos hi]; exact hy
        have hlk := lookup_zip_at hndt hyt hval
        rcases hc' with ⟨hl, rfl⟩ | ⟨hl, b, hb, rfl⟩
        · refine ⟨_, x.toInCall.ns, ?_⟩
          rw [bindL_get hndt (by rw [e6]; exact hl), hlk]; rfl
        · have := x.cell y b hb
          rw [bindC_get hndt (by rw [e6, hl]; simp), hlk] at this
          exact this
      · obtain ⟨y, hy, ⟨_, rfl⟩ | ⟨_, b, hb, rfl⟩⟩ := hlay i p hp
        · exact ⟨_, x.toInCall.ns⟩
        · exact ⟨_, x.cell y b hb⟩
      · obtain ⟨y, hy, hc1⟩ := hlay i p hi
        obtain ⟨z, hz, hc2⟩ := hlay j p hj
        have hyz : y = z := by
          rcases hc1 with ⟨_, rfl⟩ | ⟨_, b, hb, rfl⟩
          · rcases hc2 with ⟨_, e⟩ | ⟨_, b, hb, e⟩
            · cases e; rfl
            · cases e
          · rcases hc2 with ⟨_, e⟩ | ⟨_, b', hb', e⟩
            · cases e
            · cases e
              exact name_of_addr x.apart (mem_of_lookup hb) (mem_of_lookup hb')
        subst hyz
        obtain ⟨l1, q1⟩ := List.getElem?_eq_some_iff.mp hy
        obtain ⟨l2, q2⟩ := List.getElem?_eq_some_iff.mp hz
        exact nodup_inj O.nd l1 l2 (q1.trans q2.symm)
      · exact (ho a o e).gen hN (fun b o _ e => hk b o e) fun o e => hk a o e
      · rcases q with q | q
        · cases e' : s.heap.get? a with
          | none => exact hlive a q e'
          | some ob => rw [hk _ _ e'] at e; cases e
        · exact hNl a q e
      · cases e' : H a with
        | none => exact absurd e' q
        | some ob => exact (ho a ob e').exists
    have EO : EnvOk env (fnSc (G.tbl.map (·.1)) G.xs (G.hots.contains f) G.hots fn dr).names (fnSc (G.tbl.map (·.1)) G.xs (G.hots.contains f) G.hots fn dr).σ lay := by
      refine ⟨by rw [e3]; exact O.kind, e4, e5, fun y q => by rw [e6]; exact q, fun y q => by rw [e6]; exact q, fun y q => by rw [e6]; exact q, fun y q => .inr (by rw [e6]; exact q), fun y i q => ?_⟩
      have q' : xs[i]? = some y := by
        refine lookup_range ?_
        rw [hxl]; exact q
      obtain ⟨hst, hcd⟩ := O.st y (List.mem_of_getElem? q')
      rcases hst with hl | hl
      · refine ⟨.loc env.locals y, ?_, .inl ⟨by rw [e6]; exact hl, rfl⟩⟩
        simp only [lay, layF, q', hl, if_true]
      · have hcs : (env.cells.lookup y).isSome := by rw [e2]; exact cells_some (.inl ⟨hl, O.names⟩)
        obtain ⟨b, hb⟩ := Option.isSome_iff_exists.mp hcs
        refine ⟨.cell b, ?_, .inr ⟨.inl (by rw [e6]; exact hl), hcd, b, hb, rfl⟩⟩
        simp only [lay, layF, q', hl, hb]
        rfl
    have eF : env.frame = some env.locals := by rw [← hEnv]; rfl
    obtain ⟨lv, l₀, hl₀, hfs⟩ := hfr
    have hA' : (A.deeper env).frames = some (env :: l₀) := by show A.frames.map (env :: ·) = _; rw [hl₀]; rfl
    have ez : ∀ b, FZ (A.deeper env) Sys' b → FZ A Sys b ∨ s.heap.get? b = none := by
      rintro b ⟨⟨l, e, h1, h2, h3⟩, _⟩
      rw [hA'] at h1; cases h1
      rcases List.mem_cons.mp h2 with rfl | h2
      · rw [eF] at h3; cases h3; exact .inr hLf
      · obtain ⟨_, L, _, g1, g2, _⟩ := hfs e h2
        rw [h3] at g1; cases g1
        exact .inl ⟨⟨l₀, e, hl₀, h2, h3⟩, g2⟩
    have hfr' : FrOk (A.deeper env) Sys' s₁.heap := by
      refine ⟨S.live, _, hA', fun e he => ?_⟩
      rcases List.mem_cons.mp he with q | he
      · rw [q]
        obtain ⟨o, es, ep, ho', d', _⟩ := x.toInCall.ns
        exact ⟨by rw [e3, O.kind]; decide, env.locals, o, eF, .inr (.inl rfl), ho', fun vs q => by rw [d'] at q; cases q⟩
      · obtain ⟨g1, L, o, g2, g3, g4, g5⟩ := hfs e he
        exact ⟨g1, L, o, g2, .inl g3, hk _ _ g4, g5⟩
    have Fr : Fx G d (fnSc (G.tbl.map (·.1)) G.xs (G.hots.contains f) G.hots fn dr) (A.deeper env) env lay Sys' s.heap ⟨vs.map some ++ List.replicate (fn.nv - fn.np) none, H, H⟩ s₁ := by
      refine ⟨⟨R.deeper (by rw [e3]; exact O.gen) (by rw [e3]; exact O.cor) e5 e4, EO, fun i p hp => ?_, S, ⟨_, eF, env, l₀, hA', eF⟩, fun e => hcold e⟩, hfr', .inr hhd⟩
      obtain ⟨y, hy, _⟩ := hlay i p hp
      obtain ⟨l, _⟩ := List.getElem?_eq_some_iff.mp hy
      show i < fn.vars.length
      omega
    have raised : ∀ e s', RzS G.mg (A.deeper env) Sys' s.heap s₁ (fun x _ => X x) e s' → wpAny (model G.prog G.w) (A.deeper env) (leaving env e) (fun _ s'' => E e s'') (fun e' s'' => E e' s'') s' := by
      intro e s' q; cases q
    refine sndB hc fn.body (fnSc (G.tbl.map (·.1)) G.xs (G.hots.contains f) G.hots fn dr) dr.body ⟨rfl, rfl, rfl⟩ O.body Fr _ _ _ _ hW (fun fl f' st' s' q r F' p => ?_) raised
    have hsh : ∃ h' tk, s' = { s with heap := h', toks := tk } := by
      obtain ⟨h1, t1, e⟩ := p.sh
      obtain ⟨h2, t2, e'⟩ := x.toInCall.same
      exact ⟨h1, t1, by rw [e, e']⟩
    have kp : Kp (FZ A Sys) s s' := by
      obtain ⟨h', tk, e⟩ := hsh
      have := F'.sim.keep
      subst e
      exact Kp.ofW (this.less ez)
    have hBst : st'.B = H := p.B
    have g : Given G.hf H st'.H Sys Sys' s s' := ⟨F'.sim.objs, fun a q => .inl q, fun a q => p.stay a q, fun a q q' => F'.sim.own a q (by rw [hBst]; exact q'), F'.sim.dis⟩
    cases r with
    | next => exact hK .none .none st'.H Sys' s' q g .none kp
    | brk => exact q.elim
    | cont => exact q.elim
    | ret r => exact hK _ _ st'.H Sys' s' q g r kp

theorem call_all {G : PG} : ∀ d, CallSnd G d
  | 0 => by
    intro R T ho hlive hdis hfr hhd hcold hmg hrv Q X K E hW
    exact hW.elim
  | d + 1 => call_step (call_all d)

end Mine
end

section
set_option autoImplicit false
namespace Mine
open PySem

noncomputable def strOkB (u : Str) : Bool := decide (u.length ≤ sizeLine) && u.cps.all (· < 0x110000)

noncomputable def freeN (p : Program) (loose : List Str) (n : String) : Bool := !(startupNames.contains (Str.ofString n)) && !(loose.contains (Str.ofString n)) && !(((PyProof.Rows.recsOf p).map (·.name)).contains (Str.ofString n)) &&
  !(((PyProof.Rows.litsOf p).map (·.1)).contains (Str.ofString n)) && !(((PyProof.Rows.clssOf p loose).map (·.name)).contains (Str.ofString n))
noncomputable def freeB (p : Program) (loose : List Str) : Bool := bnames.all (freeN p loose)
theorem free_of {p : Program} {loose : List Str} {mean : ExcName → Option Value} {mg mb : Str → Option Value} {h : Heap} (T : PyProof.Rows.Top p loose mean mg mb h) {n : String} (this : freeN p loose n = true) : mg (Str.ofString n) = none := by
  simp only [freeN, Bool.and_eq_true, Bool.not_eq_true', List.contains_eq_mem, decide_eq_false_iff_not] at this
  obtain ⟨⟨⟨⟨h1, h2⟩, h3⟩, h4⟩, h5⟩ := this
  exact T.free _ h1 h2 h3 h4 h5
noncomputable def constB (p : Program) (gtab : List (String × V)) : Bool := gtab.all fun q => match q.2, PyProof.Rows.valOf p (Str.ofString q.1) with
  | .int i, some (.int j) => i == j
  | .str u, some (.str v) => u == v && strOkB u
  | _, _ => false
noncomputable def recAt (p : Program) (f : String) : Option DefRec := (PyProof.Rows.recsOf p).find? (·.name == Str.ofString f)
noncomputable def fnB (p : Program) (fns xs hots : List String) (q : String × Fn) : Bool := match recAt p q.1 with
  | some dr => chkFn fns xs (hots.contains q.1) hots q.2 dr
  | none => false

theorem boot_ok : ∀ n ∈ bnames, Str.ofString n ≠ "__name__" ∧ bootBuiltins (Str.ofString n) = some (bval n) := by
  intro n hn
  simp only [bnames, List.mem_cons, List.not_mem_nil, or_false] at hn
  rcases hn with rfl | rfl | rfl | rfl | rfl | rfl | rfl | rfl | rfl | rfl | rfl | rfl | rfl | rfl | rfl <;> exact ⟨by decide, by kernel_rfl⟩

noncomputable def clsB (c : ClsRec) (n : Nat) (fs : List (String × Ini)) : Bool := fs.all (fun f => c.quiet.contains (Str.ofString f.1)) && c.meths.any fun m => decide (m.name = Str.ofString "__init__") && chkIni n fs m.params m.body m.scope
theorem crow_of {h : Heap} {c : ClsRec} {C N : Addr} {mN : Str → Option Value} {n : Nat} {fs : List (String × Ini)} (P : PyProof.Rows.PlainAt h c C N mN) (hb : clsB c n fs = true) (ht : ∀ f ∈ fs, typeLookup (.type "object") (Str.ofString f.1) = pure none) : CRow h C N mN n fs := by
  obtain ⟨h1, h2⟩ := (Bool.and_eq_true _ _).mp hb
  obtain ⟨m, hm, h2⟩ := List.any_eq_true.mp h2
  obtain ⟨h2, h3⟩ := (Bool.and_eq_true _ _).mp h2
  have hn := of_decide_eq_true h2
  obtain ⟨f, o, pm, cd, doc, g1, g2, g3, g4, g5⟩ := P.meths m hm
  rw [hn] at g1 g4 g5
  exact ⟨P.cls, P.quiet _ (List.mem_append_left _ (.tail _ (.head _))), P.quiet _ (List.mem_append_left _ (.head _)), fun f hf => ⟨P.quiet _ (List.contains_iff_mem.mp (List.all_eq_true.mp h1 f hf)), ht f hf⟩, f, o, pm, cd, doc, _, _, _, _, g1, g2, g3, g4, g5, h3⟩
theorem cls_of {p : Program} {loose : List Str} {mg : Str → Option Value} {h : Heap} {x : String} {n : Nat} {fs : List (String × Ini)} (TE : PyProof.Rows.TopE p loose mg h) (hb : ((PyProof.Rows.plainsOf p loose).any fun c => decide (c.name = Str.ofString x) && clsB c.withCmp n fs) = true) (ht : ∀ f ∈ fs, typeLookup (.type "object") (Str.ofString f.1) = pure none) :
    ∃ C, mg (Str.ofString x) = some (.ref C) ∧ ∃ N0 mN, CRow h C N0 mN n fs := by
  obtain ⟨c, hc, hb⟩ := List.any_eq_true.mp hb
  obtain ⟨h1, h2⟩ := (Bool.and_eq_true _ _).mp hb
  obtain ⟨C, N, mN, e, P⟩ := TE c hc
  rw [of_decide_eq_true h1] at e
  exact ⟨C, e, N, mN, crow_of P h2 ht⟩
theorem tt_of {prog : Program} {w : World} {p : Program} {loose : List Str} {mean : ExcName → Option Value} {mg mb : Str → Option Value} {h : Heap} {tbl : Tbl} {gtab : List (String × V)} {ctab : Clss} {xs hots : List String} (T : PyProof.Rows.Top p loose mean mg mb h)
    (htree : prog.given.tree = none) (himp : PyProof.Rows.importsNone p = true) (hfree : freeB p loose = true) (hconst : constB p gtab = true) (hfn : ∀ q ∈ tbl, fnB p (tbl.map (·.1)) xs hots q = true)
    (hcl : ∀ r ∈ ctab, mg (Str.ofString r.1) = some (.ref r.2.1) ∧ ∃ N0 mN, CRow h r.2.1 N0 mN r.2.2.1 r.2.2.2)
    : TT ⟨prog, w, mg, mb, tbl, gtab, ctab, xs, hots⟩ h := by
  refine ⟨⟨T.g, T.b, T.nolimit, T.seer himp, htree⟩, fun n hn => ⟨?_, ?_⟩, fun f fn hf => ?_, fun x v hx => ?_
    , hcl
    ⟩
  · exact free_of T (List.all_eq_true.mp hfree n hn)
  · exact (T.builtins _ (boot_ok n hn).1).trans (boot_ok n hn).2
  · have hm : (f, fn) ∈ tbl := by
      clear hfn
      induction tbl with
      | nil => simp at hf
      | cons q r ih =>
        obtain ⟨g, fg⟩ := q
        simp only [List.lookup_cons] at hf
        cases e : f == g with
        | true =>
          rw [e] at hf; simp only at hf; cases hf
          have : f = g := by simpa using e
          subst this; simp
        | false => rw [e] at hf; simp only at hf; exact List.mem_cons_of_mem _ (ih hf)
    have hq := hfn _ hm
    unfold fnB at hq
    simp only at hq
    split at hq
    · rename_i dr hdr
      have hin := List.mem_of_find?_eq_some hdr
      have hnm : dr.name = Str.ofString f := by simpa using List.find?_some hdr
      obtain ⟨a, o, pm, code, doc, h1, h2, h3, h4⟩ := T.fn dr hin
      exact ⟨dr, a, o, pm, code, doc, hnm ▸ h1, h2, h3, h4, hq⟩
    · cases hq
  · have hm : (x, v) ∈ gtab := by
      clear hconst
      induction gtab with
      | nil => simp at hx
      | cons q r ih =>
        obtain ⟨g, fg⟩ := q
        simp only [List.lookup_cons] at hx
        cases e : x == g with
        | true =>
          rw [e] at hx; simp only at hx; cases hx
          have : x = g := by simpa using e
          subst this; simp
        | false => rw [e] at hx; simp only at hx; exact List.mem_cons_of_mem _ (ih hx)
    have hq := List.all_eq_true.mp hconst _ hm
    simp only at hq
    split at hq
    · rename_i i j hv
      have e : i = j := by simpa using hq
      subst e
      obtain ⟨val, h1, h2⟩ := T.const _ _ hv
      have := h2 h
      cases this
      exact .inl ⟨_, _, rfl, h1⟩
    · rename_i u u' hv
      simp only [Bool.and_eq_true] at hq
      have e : u = u' := by simpa using hq.1
      subst e
      obtain ⟨val, h1, h2⟩ := T.const _ _ hv
      have := h2 h
      cases this
      refine .inr ⟨_, _, rfl, ?_, h1⟩
      have hs := hq.2
      unfold strOkB at hs
      simp only [Bool.and_eq_true, decide_eq_true_eq] at hs
      refine ⟨hs.1, fun c hc => ?_⟩
      have := hs.2
      rw [← Array.all_toList, List.all_eq_true] at this
      simpa using this c hc
    · cases hq

theorem ints_rv {N : Addr → Prop} {h : Heap} : ∀ {vs : List Value} {ns : List Int}, PyProof.Rows.IntsAre vs ns → RVs N h (ns.map V.int) vs
  | _, _, .nil => .nil
  | _, _, .cons n t r => .cons (.int n t) (ints_rv r)

/-- the law's call, from outside -/
theorem law_top {G : PG} {d : Nat} {s : Shared} {fa a : Addr} {vs : List Value} {ns : List Int} {n : Nat} {f : String} {K E : Value → Shared → Prop} (T : TT G s.heap) (hmg : G.mg (Str.ofString f) = some (.ref fa)) (hl : IsL s.heap a vs.toArray n) (hi : PyProof.Rows.IntsAre vs ns) (hz : ns.length ≤ 63)
    (hd : d ≤ 300) (hW : (G.cx d).call f [.lst (ns.map V.int)] (fun _ => none) (fun v => v = .bool true) (fun _ => False)) (hK : ∀ s', (∃ h' tk, s' = { s with heap := h', toks := tk } ∧ HK s.heap h') → K (.bool true) s') : wpAny (model G.prog G.w) callerA (call (.ref fa) [.ref a]) K E s := by
  have hlen : vs.length = ns.length := by
    have := (ints_rv (N := fun _ => False) (h := s.heap) hi).length
    simpa using this.symm
  have hd0 : HdOk callerA (fun _ => False) s.heap := rfl
  refine call_all d (A := callerA) (H := fun _ => none) (Sys := fun _ => False) (vs := [.lst (ns.map V.int)]) (vals := [.ref a]) ⟨⟨?_, ?_⟩, [], rfl⟩ ⟨_, T, HK.refl _, fun _ q => q.elim (fun q => absurd rfl q) fun q => q.elim⟩ (fun _ _ e => by cases e) (fun _ q => q.elim) (fun _ q => q.elim) ⟨fun _ q => q.elim, [], rfl, fun _ q => by cases q⟩ hd0 (fun _ => rfl) hmg (.cons (.lst (fun q => ?_) hl ?_ (by simpa using ints_rv hi)) .nil) _ (fun _ => False) K E hW (fun v val H' Sys' s' q g r k => ?_) fun e s' q => q.no.elim
  · show 1 + claimMargin + d + 150 < recursionLimit
    have : claimMargin = 300 := rfl
    have : recursionLimit = 1000 := rfl
    omega
  · show 4 + 20 * d + 200 < cLine
    have : cLine = 9900 := rfl
    omega
  · rcases q with q | q
    · exact q rfl
    · exact q
  · have : sizeLine = 16777216 := rfl
    rw [List.size_toArray]; omega
  · have hfz := frz_ok (H := H') (B := fun _ => none) (Sys := fun _ => False) (Sys' := Sys') (h := s'.heap) g.ho g.sub g.stay fun _ _ _ hs => hs
    split at q
    · rename_i v' hv'
      subst q
      cases (hfz 8).1 _ _ _ hv' r
      obtain ⟨h', tk, e, k⟩ := k
      exact hK s' ⟨h', tk, e, fun b o e => (k b o e).1 fun q => q.2⟩
    · exact q.elim

end Mine
end

section
set_option autoImplicit false
namespace Mine
open PySem
end Mine
end

section
set_option maxRecDepth 100000
set_option maxHeartbeats 8000000
open PySem PySem.W PyProof.Rows Mine Mine.L13
theorem Mine.saidX : PySem.Challenge.rw_uf020039_13.wellSaid = true := by
  unfold OpenLaw.wellSaid OpenRow.wellSaid OpenRow.partSaid looksOpen
  repeat' with_reducible refine look_both ?_ ?_
  all_goals decide +kernel
theorem PySem.Challenge.cw_uf020039_13_holds : PySem.Challenge.rw_uf020039_13.Holds := by
  w_on; refine PySem.W.holds_law Mine.saidX fun said => ?_; o_head Hook.none; (case hw => w_witness2)
  intro w s₀ s₁ mg mb G Y fa o pm cd doc dV kV ho hd hcd hD hmg hg args vals as hpre hlay hrd hwl hlo
  refine Ground.open G ?_
  intro T B D TE TW
  have hmg' : mg (Str.ofString "law") = some (.ref fa) := hmg
  clear hD hcd hd ho hmg Y G B D TW
  wrow_args hpre hlay hrd hwl hlo
  rename_i ns hs hlay0 hL0 hr1 hl2 as2 as3 a vs as4 hL ra w1 r0 hI hr0 hc1 hc2
  have hlist : IsL s₁.heap a vs.toArray 0 := by
    cases w1 with
    | list h1 h2 =>
      obtain ⟨o, ho, _, n, hd⟩ := hL
      rw [h1] at ho; cases ho
      have e : vs.toArray = _ := (Data.seq.inj hd).1.symm
      rw [e]; exact h1
  obtain ⟨C, hC, hrow⟩ := cls_of (x := "Piece") (n := 3) (fs := [("size", .arg 0), ("head", .arg 1), ("tail", .arg 2), ("times", .val (.int 0)), ("first", .val .none)]) TE (by decide +kernel) (by
    intro f hf
    simp only [List.mem_cons, List.not_mem_nil, or_false] at hf
    rcases hf with rfl | rfl | rfl | rfl | rfl <;> (rw [typeLookup_type, builtinLookup_eq_fast]; kernel_rfl))
  have TT1 : TT ⟨PySem.Challenge.rw_uf020039_13.row.prog, w, mg, mb, tbl, gtab, ctab C, [], []⟩ s₁.heap := tt_of T rfl (by decide +kernel) (by decide +kernel) (by decide +kernel) (by decide +kernel) (by intro r hr; rw [List.mem_singleton.mp hr]; exact ⟨hC, hrow⟩)
  refine law_top (G := ⟨PySem.Challenge.rw_uf020039_13.row.prog, w, mg, mb, tbl, gtab, ctab C, [], []⟩) (d := 30) TT1 hmg' hlist hI (by omega) (by decide) (Mine.L13.main C ns (by omega)) fun s' k => ?_
  obtain ⟨h', tk, rfl, hk⟩ := k
  refine ⟨.inl ⟨.bool true, .bool true, [], rfl, ?_, .bool true, ?_, ?_⟩, ?_, rfl, ?_⟩
  · intro cls; rfl
  · wrow_post
  · intro _; exact ⟨List.nodup_nil, by simp⟩
  · exact .of_keep hk
  · exact .of_eq hg
end

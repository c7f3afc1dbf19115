import PyProof.Rows.All
import PyProof.P3Statements
import PySem.Sem
import PySem.Builtin.Str.Common
import PyProof.StrLaws
import PyProof.StrLawsIn
import PyProof.Defs
import PyProof.Rows.Top
import PyProof.CompMap
import PyProof.Cells
import PyProof.TupleIter
import PyProof.ListOps
import PyProof.TupleOps
import PyProof.Rows.Tup
import PyProof.Rows.PlainObj
import PyProof.RaisesMany
import PyProof.RulesTry
import PyProof.Walks
import PyProof.WalksMore
import PyProof.StrWalks
import PyProof.RangeFor
import PyProof.Rows.StrRules
import PyProof.Rows.RuleB_floordiv
import PyProof.Rows.RuleB_mod
import PyProof.Rows.RuleB_mul
import PyProof.Rows.RuleB_sub
import PyProof.Rows.IntRules
import PyProof.Rows.RuleC_int
import PyProof.Rows.RuleU_int
import PyProof.Rows.StrTemp
import PyProof.PureInt
import PyProof.Truth
import PyProof.ListTruth
import PyProof.CallRoads
import PyProof.CallType
import PyProof.EqLayable
import PyProof.P3In
import PyProof.Rows.Nodes
import PyProof.Rows.RuleB_pow
import PyProof.NoPylong
import PyProof.StrBlock2
import PyProof.ListMulRoad
import PyProof.AutoListH
import PyProof.ListIndexNeg
import PyProof.SliceMore
import PyProof.SliceStr2
import PyProof.Rows.ListMul
import PyProof.Rows.StrPins
import PyProof.IsInstanceH
import PyProof.IsiSeqPairs
import PyProof.IsiPairs
import PyProof.Rules3
import PyProof.Rules2
import PyProof.DictRoadsH
import PyProof.DictKinds
import PyProof.ExcClass2
import PyProof.P3Eq
import PyProof.EqAt
import PyProof.SeqRoads
import PyProof.FactsAll.list_1
import PyProof.Rows.Chain
import PyProof.NeData
import PyProof.IsiNone
import PyProof.DefCall
import PyProof.Rows.Range3
import PyProof.ListNew
import PyProof.ReprLoop
import PyProof.FactsAll.list
import PyProof.FactsAll.list_2
import PyProof.Draws
import PyProof.EnumMake
import PyProof.ZipIter
import PyProof.Conv_int
import PyProof.Conv_int_bool
import PyProof.CallStr
import PyProof.TupleOfSeq
import KE.IntTextLaws
import PyProof.DictIter
import PyProof.DictWalks
import PyProof.DictDisplay
import PyProof.ListCopy
import PyProof.ListStr
import PyProof.ListRange
import PyProof.Rows.StrJoin2
import PyProof.SliceSyntax
import PyProof.StrBlockL
import PyProof.Rows.SumAny
import PyProof.WalkInts
import PyProof.SeqI3
import PyProof.Rows.CallKwBuiltin
import PyProof.MinMaxWalk
import PyProof.CompFree
import PyProof.Comp
import PyProof.WalksPairs
import PyProof.Rows.TupIter
import PyProof.Rows.TopObj
import PyProof.Rows.AttrNodeAny
import PyProof.ExcArgsOwn
import PyProof.ExcAttrAll.ValueError
import PyProof.IsInstance
import PyProof.Raises
import PyProof.RulesAssignMore
import PyProof.Rows.TupAssign
import PyProof.ForAny
import PyProof.ExcBaseAll.ValueError
import PyProof.NsDelKeeps
import Wide.All
import PyProof.ExcQuiet
import Open.Line
import PySem.Challenge.RW_uf020039_08
set_option Elab.async false
set_option linter.all false
section
set_option autoImplicit false
namespace Mine
open PySem

inductive V where
  | none
  | bool (b : Bool)
  | int (i : Int)
  | str (s : Str)
  | tup (vs : List V)
  | lst (vs : List V)
  | ref (a : Nat)
  | inst (c : Nat) (ns : List String) (vs : List V)
  | iref (c : Nat) (ns : List String) (a : Nat)
  | exc (c : String)
  | dct

/-- what a key is made of -/
inductive At where
  | i (n : Int)
  | s (x : Str)
deriving DecidableEq
noncomputable abbrev HFn := List At → Int
inductive AO where
  | list (vs : List V)
  | dict (kvs : List (List At × V))
  | inst (c : Nat) (ns : List String) (vs : List V)

noncomputable abbrev AH := Nat → Option AO
noncomputable def AH.upd (H : AH) (a : Nat) (o : AO) : AH := fun b => if b = a then some o else H b

structure St where
  ρ : List (Option V)
  H : AH
  B : AH

set_option genSizeOf false
set_option genInjectivity false
inductive Bop where
  | add | sub | mul | fdiv | mod | pow
inductive Cop where
  | eq | ne | lt | le | gt | ge | is | isnot | isin | notin
inductive Ty where
  | int | bool | str | tuple | list | own (c : String) | ValueError
inductive Tg where
  | var (i : Nat)
  | tup (is : List Nat)

mutual
inductive E where
  | none
  | bool (b : Bool)
  | int (i : Int)
  | str (s : Str)
  | var (i : Nat)
  | glob (x : String)
  | bin (op : Bop) (a b : E)
  | neg (a : E)
  | not (a : E)
  | and (a b : E)
  | or (a b : E)
  | ite (t a b : E)
  | list (es : Es)
  | tup (es : Es)
  | cmp (a : E) (c : Ch)
  | sub (a i : E)
  | slice (a lo hi : E)
  | call (f : String) (args : Es)
  | isinst (a : E) (t : Ty)
  | len (a : E)
  | sum (a : E)
  | max2 (a b : E)
  | min2 (a b : E)
  | maxl (a : E)
  | maxd (a d : E)
  | strOf (a : E)
  | intOf (a : E)
  | tupOf (a : E)
  | listOf (it : It)
  | join (s a : E)
  | get (d k v : E)
  | dict0
  | attr (a : E) (n : String)
  | new (c : String) (args : Es)
  | comp (elt : E) (t : Tg) (it : It)
  | compIf (elt : E) (t : Tg) (it : It) (c : E)
  | isexc (a : E) (t : String)
  | only (a : E)
inductive Es where
  | nil
  | cons (e : E) (es : Es)
inductive Ch where
  | one (op : Cop) (e : E)
  | more (op : Cop) (e : E) (c : Ch)
inductive It where
  | seq (e : E)
  | rev (e : E)
  | range1 (n : E)
  | range2 (a b : E)
  | range3 (a b c : E)
  | enum (e : E)
  | zip (a b : E)
  | keys (e : E)
end

mutual
inductive A where
  | pure (e : E)
  | thaw (e : E)
  | list (as : As)
  | dict
  | new (c : String) (args : Es)
  | callO (f : String) (args : Es)
inductive As where
  | nil
  | cons (a : A) (as : As)
end

mutual
inductive S where
  | expr (e : E)
  | assign (t : Tg) (e : E)
  | own (i : Nat) (a : A)
  | append (e : E) (a : A)
  | pop (t : Tg) (e : E)
  | setitem (e k v : E)
  | setkey (e k v : E)
  | setattr (e : E) (n : String) (v : E)
  | setlast (e v : E)
  | ite (t : E) (a b : Bl)
  | while (t : E) (b : Bl)
  | for (t : Tg) (it : It) (b : Bl)
  | ret (e : E)
  | retO (e : E)
  | raise (c : String) (msg : E)
  | rz (c : String) (msg : E)
  | tryEx (e : E) (c : String) (x : Option Nat) (h : Bl)
inductive Bl where
  | nil
  | cons (s : S) (b : Bl)
end

structure Fn where
  np : Nat
  vars : List String
  nv : Nat
  body : Bl

set_option genSizeOf true
set_option genInjectivity true
/-! values -/
noncomputable def signsOf (s : Str) : List V := s.cps.toList.map fun c => V.str ⟨#[c]⟩
noncomputable def seqL (H : AH) : V → Option (List V)
  | .lst vs => some vs
  | .ref a => match H a with
    | some (.list vs) => some vs
    | _ => Option.none
  | _ => Option.none
noncomputable def atV : At → V
  | .i n => .int n
  | .s x => .str x
noncomputable def keyV (ks : List At) : V := .tup (ks.map atV)
noncomputable def itemsV (H : AH) : V → Option (List V)
  | .lst vs => some vs
  | .tup vs => some vs
  | .str s => some (signsOf s)
  | .ref a => match H a with
    | some (.list vs) => some vs
    | _ => Option.none
  | _ => Option.none
/-- the tracked thing that a walk over a value reads -/
noncomputable def depsV : V → List Nat
  | .ref a => [a]
  | _ => []
noncomputable def sizeV (H : AH) : V → Option Nat
  | .lst vs => some vs.length
  | .tup vs => some vs.length
  | .str s => some s.length
  | .ref a => match H a with
    | some (.list vs) => some vs.length
    | _ => Option.none
  | _ => Option.none
noncomputable def truthV (_H : AH) : V → Option Bool
  | .bool b => some b
  | _ => Option.none
noncomputable def resV (H : AH) : V → V
  | .ref a => match H a with
    | some (.list vs) => .lst vs
    | _ => .ref a
  | v => v

mutual
noncomputable def toD : V → Option PyData
  | .none => some .none
  | .bool b => some (.bool b)
  | .int i => some (.int i)
  | .str s => some (.str s)
  | .tup vs => (toDs vs).map .tuple
  | .lst vs => (toDs vs).map .list
  | .ref _ => Option.none
  | .inst _ _ _ => Option.none
  | .iref _ _ _ => Option.none
  | .exc _ => Option.none
  | .dct => Option.none
noncomputable def toDs : List V → Option (List PyData)
  | [] => some []
  | v :: vs => match toD v, toDs vs with
    | some d, some ds => some (d :: ds)
    | _, _ => Option.none
end

noncomputable def eqV (H : AH) (a b : V) (Q : Bool → Prop) : Prop :=
  match toD (resV H a), toD (resV H b) with
  | some x, some y => x.depth ≤ 64 ∧ Q (PyData.eqv x y)
  | _, _ => False

/-- a text holds another one -/
noncomputable def hasSub (s t : Str) : Bool := !(Builtin.Str.occurrences s t 0 s.length 1).isEmpty

noncomputable def atOf : V → Option At
  | .int n => some (.i n)
  | .str x => some (.s x)
  | _ => Option.none
noncomputable def atsOf : List V → Option (List At)
  | [] => some []
  | v :: vs => (match atOf v, atsOf vs with
    | some a, some as => some (a :: as)
    | _, _ => Option.none)
/-- a pair, as a key -/
noncomputable def keyP : V → (List At → Prop) → Prop
  | .tup vs, P => (match atsOf vs with
    | some ks => P ks
    | Option.none => False)
  | _, _ => False
noncomputable def dlook (k : List At) : List (List At × V) → Option V
  | [] => Option.none
  | (a, v) :: r => if a = k then some v else dlook k r
noncomputable def dput (k : List At) (v : V) : List (List At × V) → List (List At × V)
  | [] => [(k, v)]
  | (a, w) :: r => if a = k then (a, v) :: r else (a, w) :: dput k v r
noncomputable def dictP (H : AH) (u : V) (P : Nat → List (List At × V) → Prop) : Prop := match u with
  | .ref a => (match H a with
    | some (.dict kvs) => P a kvs
    | _ => False)
  | _ => False

/-- whole numbers, as arguments of range -/
noncomputable def intP : V → (Int → Prop) → Prop
  | .int i, P => P i
  | _, _ => False
noncomputable def smallI (i : Int) : Prop := -(2 ^ 62) ≤ i ∧ i < 2 ^ 62
noncomputable def strP : V → (Str → Prop) → Prop
  | .str s, P => P s
  | _, _ => False
noncomputable def noneP : V → Prop → Prop
  | .none, P => P
  | _, _ => False
noncomputable def isNone : V → Bool
  | .none => true
  | _ => false
noncomputable def seqP (H : AH) (v : V) (P : List V → Prop) : Prop := match seqL H v with
  | some x => P x
  | Option.none => False
/-- a list or a tuple -/
noncomputable def rowL (H : AH) : V → Option (List V)
  | .lst vs => some vs
  | .tup vs => some vs
  | .ref a => match H a with
    | some (.list vs) => some vs
    | _ => Option.none
  | _ => Option.none
noncomputable def rowP (H : AH) (v : V) (P : List V → Prop) : Prop := match rowL H v with
  | some x => P x
  | Option.none => False
noncomputable def inV (H : AH) (x c : V) (Q : Bool → Prop) : Prop := match c with
  | .str s => strP x fun t => Q (hasSub s t)
  | c => dictP H c fun _ kvs => keyP x fun ks => Q (dlook ks kvs).isSome
noncomputable def cmpV (H : AH) (op : Cop) (a b : V) (Q : Bool → Prop) : Prop := match op with
  | .eq => eqV H a b Q
  | .ne => eqV H a b fun r => Q (!r)
  | .lt => intP a fun i => intP b fun j => Q (decide (i < j))
  | .le => intP a fun i => intP b fun j => Q (decide (i ≤ j))
  | .gt => intP a fun i => intP b fun j => Q (decide (i > j))
  | .ge => intP a fun i => intP b fun j => Q (decide (i ≥ j))
  | .is => noneP b (Q (isNone a))
  | .isnot => noneP b (Q (!isNone a))
  | .isin => inV H a b Q
  | .notin => inV H a b fun r => Q (!r)

noncomputable def repL {α : Type} (n : Nat) (xs : List α) : List α := (List.replicate n xs).flatten

noncomputable def addV (H : AH) (a b : V) (Q : V → Prop) : Prop := match a with
  | .int i => intP b fun j => Q (.int (i + j))
  | .str s => strP b fun t => s.length + t.length ≤ sizeLine ∧ Q (.str (s ++ t))
  | a => seqP H a fun x => seqP H b fun y => x.length + y.length ≤ sizeLine ∧ Q (.lst (x ++ y))
noncomputable def mulV (a b : V) (Q : V → Prop) : Prop := match a with
  | .int i => intP b fun j => (i.natAbs < 2 ^ 62 ∨ j.natAbs < 2 ^ 62) ∧ Q (.int (i * j))
  | .lst vs => intP b fun n => -(2 ^ 62) ≤ n ∧ n < 2 ^ 62 ∧ vs.length * n.toNat ≤ sizeLine ∧ Q (.lst (repL n.toNat vs))
  | .str s => intP b fun n => 0 ≤ n ∧ n < 2 ^ 30 ∧ s.length * n.toNat ≤ sizeLine ∧ Q (.str ⟨(repL n.toNat s.cps.toList).toArray⟩)
  | _ => False
noncomputable def binV (H : AH) (op : Bop) (a b : V) (Q : V → Prop) : Prop := match op with
  | .add => addV H a b Q
  | .sub => intP a fun i => intP b fun j => Q (.int (i - j))
  | .mul => mulV a b Q
  | .fdiv => intP a fun i => intP b fun j => j ≠ 0 ∧ Q (.int (i.fdiv j))
  | .mod => intP a fun i => intP b fun j => j ≠ 0 ∧ Q (.int (i.fmod j))
  | .pow => intP a fun i => intP b fun j => i = 10 ∧ j = 30 ∧ Q (.int 1000000000000000000000000000000)

/-- a place in a row of n, from behind if it is negative -/
noncomputable def idx (n : Nat) (i : Int) : Option Nat :=
  if 0 ≤ i then (if i < n then some i.toNat else Option.none) else (if 0 ≤ i + n then some (i + n).toNat else Option.none)

noncomputable def subV (H : AH) : V → V → (V → Prop) → Prop
  | .ref a, k, Q => (match H a with
    | some (.dict kvs) => keyP k fun ks => (match dlook ks kvs with
      | some v => Q v
      | Option.none => False)
    | some (.list vs) => (match k with
      | .int i => (match idx vs.length i with
        | some n => (match vs[n]? with
          | some v => Q v
          | Option.none => False)
        | Option.none => False)
      | _ => False)
    | _ => False)
  | .str s, .int i, Q => (match idx s.length i with
    | some n => (match s.cps.toList[n]? with
      | some c => Q (.str ⟨#[c]⟩)
      | Option.none => False)
    | Option.none => False)
  | .lst vs, .int i, Q => (match idx vs.length i with
    | some n => (match vs[n]? with
      | some v => Q v
      | Option.none => False)
    | Option.none => False)
  | .tup vs, .int i, Q => (match idx vs.length i with
    | some n => (match vs[n]? with
      | some v => Q v
      | Option.none => False)
    | Option.none => False)
  | _, _, _ => False

/-- where a cut begins or ends -/
noncomputable def clip (n : Nat) (i : Int) : Nat := (max 0 (min (if i < 0 then i + n else i) n)).toNat
noncomputable def bnd (n d : Nat) : V → Option Nat
  | .none => some d
  | .int i => some (clip n i)
  | _ => Option.none
noncomputable def cutL {α : Type} (xs : List α) (lo hi : Nat) : List α := (xs.drop lo).take (hi - lo)

noncomputable def sliceV (H : AH) (a lo hi : V) (Q : V → Prop) : Prop :=
  match a with
  | .str s => (match bnd s.length 0 lo, bnd s.length s.length hi with
    | some l, some h => Q (.str ⟨(cutL s.cps.toList l h).toArray⟩)
    | _, _ => False)
  | v => (match seqL H v with
    | some vs => (match bnd vs.length 0 lo, bnd vs.length vs.length hi with
      | some l, some h => Q (.lst (cutL vs l h))
      | _, _ => False)
    | Option.none => False)

noncomputable def isV : Ty → V → Option Bool
  | _, .ref _ => Option.none
  | _, .inst _ _ _ => Option.none
  | _, .iref _ _ _ => Option.none
  | _, .exc _ => Option.none
  | .int, .int _ => some true
  | .int, .bool _ => some true
  | .int, _ => some false
  | .bool, .bool _ => some true
  | .bool, _ => some false
  | .str, .str _ => some true
  | .str, _ => some false
  | .tuple, .tup _ => some true
  | .tuple, _ => some false
  | .list, .lst _ => some true
  | .list, _ => some false
  | _, _ => Option.none
noncomputable def isT (H : AH) (t : Ty) (v : V) : Option Bool := match v with
  | .ref a => (match H a with
    | some (.list _) => isV t (.lst [])
    | _ => Option.none)
  | v => isV t v

noncomputable def intsOf : List V → Option (List Int)
  | [] => some []
  | .int i :: r => (intsOf r).map (i :: ·)
  | _ => Option.none
noncomputable def strsOf : List V → Option (List Str)
  | [] => some []
  | .str s :: r => (strsOf r).map (s :: ·)
  | _ => Option.none
noncomputable def lenAll : List Str → Nat
  | [] => 0
  | s :: r => s.length + lenAll r
noncomputable def maxI : Int → List Int → Int
  | m, [] => m
  | m, x :: r => maxI (if x > m then x else m) r

noncomputable def digitsVal (l : List Nat) : Nat := l.foldl (fun n c => n * 10 + (c - 48)) 0
noncomputable def allDigits (l : List Nat) : Bool := l.all fun c => 48 ≤ c && c ≤ 57

/-- int(..) of a truth value or of figures -/
noncomputable def intOfV : V → (V → Prop) → Prop
  | .bool b, Q => Q (.int (if b then 1 else 0))
  | .str s, Q => allDigits s.cps.toList = true ∧ 0 < s.length ∧ s.length ≤ 100 ∧ Q (.int (digitsVal s.cps.toList))
  | _, _ => False
noncomputable def upL (a b : Int) : List V := (List.range (b - a).toNat).map fun (k : Nat) => .int (a + k)
noncomputable def downL (a b : Int) : List V := (List.range (a - b).toNat).map fun (k : Nat) => .int (a - k)

noncomputable def enumL (n : Nat) : List V → List V
  | [] => []
  | v :: vs => .tup [.int n, v] :: enumL (n + 1) vs
noncomputable def zipL : List V → List V → List V
  | x :: xs, y :: ys => .tup [x, y] :: zipL xs ys
  | _, _ => []

noncomputable def putV (i : Nat) (v : V) (ρ : List (Option V)) : Option (List (Option V)) := if i < ρ.length then some (ρ.set i (some v)) else Option.none
noncomputable def setAll : List Nat → List V → List (Option V) → Option (List (Option V))
  | [], [], ρ => some ρ
  | i :: is, v :: vs, ρ => match putV i v ρ with
    | some ρ' => setAll is vs ρ'
    | Option.none => Option.none
  | _, _, _ => Option.none
noncomputable def bindT : Tg → V → List (Option V) → Option (List (Option V))
  | .var i, v, ρ => putV i v ρ
  | .tup is, .tup vs, ρ => setAll is vs ρ
  | _, _, _ => Option.none

noncomputable def rng1 : List V → (Int → Prop) → Prop
  | [u], P => intP u fun i => smallI i ∧ P i
  | _, _ => False
noncomputable def rng2 : List V → (Int → Int → Prop) → Prop
  | [u, v], P => intP u fun i => intP v fun j => smallI i ∧ smallI j ∧ P i j
  | _, _ => False
noncomputable def rng3 : List V → (Int → Int → Int → Prop) → Prop
  | [u, v, w], P => intP u fun i => intP v fun j => intP w fun k => smallI i ∧ smallI j ∧ P i j k
  | _, _ => False

noncomputable def intsP (vs : List V) (P : List Int → Prop) : Prop := match intsOf vs with
  | some is => P is
  | Option.none => False
noncomputable def sum1 (H : AH) : List V → (Int → Prop) → Prop
  | [u], P => seqP H u fun vs => intsP vs fun is => P is.sum
  | _, _ => False
noncomputable def max1 (H : AH) : List V → (Int → Prop) → Prop
  | [u], P => seqP H u fun vs => intsP vs fun is => is ≠ [] ∧ P (maxI (is.headD 0) is.tail)
  | _, _ => False
noncomputable def maxD (H : AH) (u v : V) (Q : V → Prop) : Prop := seqP H u fun vs => intsP vs fun is => Q (match is with
  | [] => v
  | i :: r => .int (maxI i r))
noncomputable def int2 : List V → (Int → Int → Prop) → Prop
  | [u, v], P => intP u fun i => intP v fun j => P i j
  | _, _ => False

noncomputable def setV (H B : AH) (u kk : V) (P : Nat → List V → Nat → Prop) : Prop := match u with
  | .ref ad => intP kk fun i => B ad = Option.none ∧ 0 ≤ i ∧ ∃ vs, H ad = some (.list vs) ∧ i < vs.length ∧ P ad vs i.toNat
  | _ => False

noncomputable def mapO (f : V → Option V) : List V → Option (List V)
  | [] => some []
  | v :: vs => match f v, mapO f vs with
    | some x, some xs => some (x :: xs)
    | _, _ => Option.none
noncomputable def frz (H B : AH) : Nat → V → Option V
  | 0, _ => Option.none
  | n + 1, v => match v with
    | .ref a => (match B a with
      | some _ => some (.ref a)
      | Option.none => (match H a with
        | some (.list vs) => (mapO (frz H B n) vs).map .lst
        | _ => Option.none))
    | .iref c ns a => (match B a with
      | some _ => some (.iref c ns a)
      | Option.none => (match H a with
        | some (.inst _ ns' vs) => if ns' = ns then (mapO (frz H B n) vs).map (.inst c ns) else Option.none
        | _ => Option.none))
    | .tup vs => (mapO (frz H B n) vs).map .tup
    | .lst vs => (mapO (frz H B n) vs).map .lst
    | .inst c ns vs => (mapO (frz H B n) vs).map (.inst c ns)
    | v => some v
noncomputable def frzs (H B : AH) (n : Nat) (vs : List V) : Option (List V) := mapO (frz H B n) vs

noncomputable abbrev RunSem := String → List V → AH → (V → AH → Prop) → (String → Prop) → Prop
/-- what a list that a call has made holds, as its caller sees it -/
noncomputable def giveV (H' H : AH) (a : Nat) (w : V) : Option V := match w with
  | .ref b => if b = a then Option.none else (match H b with
    | some _ => Option.none
    | Option.none => (match H' b with
      | some (.list us) => some (.lst us)
      | _ => Option.none))
  | w => some w
noncomputable def giveP (H' H : AH) (v : V) (Q : List V → Prop) : Prop := match v with
  | .ref a => (match H a with
    | some _ => False
    | Option.none => (match H' a with
      | some (.list ws) => (match mapO (giveV H' H a) ws with
        | some ws' => Q ws'
        | Option.none => False)
      | _ => False))
  | _ => False
inductive Ini where
  | arg (i : Nat)
  | val (v : V)
structure Cx where
  run : RunSem
  glob : String → Option V
  cls : String → Option (Nat × Nat × List (String × Ini))
  has : Nat → List String → Bool

noncomputable def Cx.call (C : Cx) (f : String) (vs : List V) (H : AH) (Q : V → Prop) (X : String → Prop) : Prop := C.run f vs H (fun v H' => match frz H' H 8 v with
  | some v' => Q v'
  | Option.none => False) X
noncomputable def Cx.callO (C : Cx) (f : String) (vs : List V) (H : AH) (Q : List V → Prop) (X : String → Prop) : Prop := C.run f vs H (fun v H' => giveP H' H v Q) X
noncomputable def iniV (args : List V) : Ini → V
  | .arg i => (args[i]?).getD .none
  | .val v => v
noncomputable def attrL (n : String) : List String → List V → Option V
  | m :: ns, v :: vs => if m = n then some v else attrL n ns vs
  | _, _ => Option.none
noncomputable def setAttrL (n : String) (w : V) : List String → List V → Option (List V)
  | m :: ns, v :: vs => if m = n then some (w :: vs) else (setAttrL n w ns vs).map (v :: ·)
  | _, _ => Option.none

/-- one class of exceptions below another -/
noncomputable def allX : List String := ["BookError", "NoBook", "NoText", "NoPlace", "NoWord"]
noncomputable def subX (c t : String) : Bool := allX.contains c && (decide (c = t) || decide (t = "BookError") || decide (t = "ValueError"))
noncomputable def compL (f : V → (Option V → Prop) → Prop) : List V → (List V → Prop) → Prop
  | [], Q => Q []
  | x :: xs, Q => f x fun r => compL f xs fun ys => Q (match r with
    | some y => y :: ys
    | Option.none => ys)

mutual
noncomputable def WE (C : Cx) : E → St → (V → Prop) → (String → Prop) → Prop
  | .none, _, Q, _ => Q .none
  | .bool b, _, Q, _ => Q (.bool b)
  | .int i, _, Q, _ => Q (.int i)
  | .str s, _, Q, _ => Q (.str s)
  | .var i, st, Q, _ => (match st.ρ[i]? with
    | some (some v) => Q v
    | _ => False)
  | .glob x, _, Q, _ => (match C.glob x with
    | some v => Q v
    | Option.none => False)
  | .bin op a b, st, Q, X => WE C a st (fun u => WE C b st (fun v => binV st.H op u v Q) X) X
  | .neg a, st, Q, X => WE C a st (fun u => match u with
    | .int i => Q (.int (-i))
    | _ => False) X
  | .not a, st, Q, X => WE C a st (fun u => match truthV st.H u with
    | some b => Q (.bool (!b))
    | Option.none => False) X
  | .and a b, st, Q, X => WE C a st (fun u => match truthV st.H u with
    | some true => WE C b st Q X
    | some false => Q u
    | Option.none => False) X
  | .or a b, st, Q, X => WE C a st (fun u => match truthV st.H u with
    | some true => Q u
    | some false => WE C b st Q X
    | Option.none => False) X
  | .ite t a b, st, Q, X => WE C t st (fun u => match truthV st.H u with
    | some true => WE C a st Q X
    | some false => WE C b st Q X
    | Option.none => False) X
  | .list es, st, Q, X => WEs C es st (fun vs => vs.length ≤ sizeLine ∧ Q (.lst vs)) X
  | .tup es, st, Q, X => WEs C es st (fun vs => vs.length ≤ sizeLine ∧ Q (.tup vs)) X
  | .cmp a c, st, Q, X => WE C a st (fun u => WCh C c st u (fun b => Q (.bool b)) X) X
  | .sub a i, st, Q, X => WE C a st (fun u => WE C i st (fun k => subV st.H u k Q) X) X
  | .slice a lo hi, st, Q, X => WE C a st (fun u => WE C lo st (fun l => WE C hi st (fun h => sliceV st.H u l h Q) X) X) X
  | .call f args, st, Q, X => WEs C args st (fun vs => C.call f vs st.H Q X) X
  | .isinst a t, st, Q, X => WE C a st (fun u => match isT st.H t u with
    | some b => Q (.bool b)
    | Option.none => False) X
  | .len a, st, Q, X => WE C a st (fun u => match sizeV st.H u with
    | some n => Q (.int n)
    | Option.none => False) X
  | .sum a, st, Q, X => WE C a st (fun u => sum1 st.H [u] fun n => Q (.int n)) X
  | .max2 a b, st, Q, X => WE C a st (fun u => WE C b st (fun v => int2 [u, v] fun i j => Q (.int (if j > i then j else i))) X) X
  | .min2 a b, st, Q, X => WE C a st (fun u => WE C b st (fun v => int2 [u, v] fun i j => Q (.int (if j < i then j else i))) X) X
  | .maxl a, st, Q, X => WE C a st (fun u => max1 st.H [u] fun n => Q (.int n)) X
  | .maxd a d, st, Q, X => WE C a st (fun u => WE C d st (fun v => maxD st.H u v Q) X) X
  | .strOf a, st, Q, X => WE C a st (fun u => intP u fun i => i.natAbs < 2 ^ 62 ∧ Q (.str (Str.ofString (toString i)))) X
  | .intOf a, st, Q, X => WE C a st (fun u => intOfV u Q) X
  | .tupOf a, st, Q, X => WE C a st (fun u => seqP st.H u fun vs => Q (.tup vs)) X
  | .listOf it, st, Q, X => WI C it st (fun vs _ => vs.length ≤ sizeLine ∧ Q (.lst vs)) X
  | .join s a, st, Q, X => WE C s st (fun u => WE C a st (fun v => match u, (seqL st.H v).bind strsOf with
    | .str s, some ss => lenAll ss + s.length * ss.length ≤ sizeLine ∧ Q (.str (Str.join s ss))
    | _, _ => False) X) X
  | .get d k v, st, Q, X => WE C d st (fun u => dictP st.H u fun _ kvs => WE C k st (fun kk => WE C v st (fun w => keyP kk fun ks => Q ((dlook ks kvs).getD w)) X) X) X
  | .dict0, _, Q, _ => Q .dct
  | .attr a n, st, Q, X => WE C a st (fun u => match u with
    | .inst c ns vs => C.has c ns = true ∧ (match attrL n ns vs with
      | some v => Q v
      | Option.none => False)
    | .iref c ns ad => (match st.H ad with
      | some (.inst c' ns' vs) => C.has c ns = true ∧ c' = c ∧ ns' = ns ∧ (match attrL n ns vs with
        | some v => Q v
        | Option.none => False)
      | _ => False)
    | _ => False) X
  | .new c args, st, Q, X => (match C.cls c with
    | some (k, n, fs) => WEs C args st (fun vs => vs.length = n ∧ Q (.inst k (fs.map (·.1)) (fs.map fun f => iniV vs f.2))) X
    | Option.none => False)
  | .comp elt t it, st, Q, X => WI C it st (fun xs _ => xs.length ≤ sizeLine ∧
      compL (fun x k => match bindT t x st.ρ with
        | some ρ' => WE C elt { st with ρ := ρ' } (fun y => k (some y)) (fun _ => False)
        | Option.none => False) xs (fun ys => Q (.lst ys))) X
  | .compIf elt t it c, st, Q, X => WI C it st (fun xs _ => xs.length ≤ sizeLine ∧
      compL (fun x k => match bindT t x st.ρ with
        | some ρ' => WE C c { st with ρ := ρ' } (fun u => match truthV st.H u with
          | some true => WE C elt { st with ρ := ρ' } (fun y => k (some y)) (fun _ => False)
          | some false => k Option.none
          | Option.none => False) (fun _ => False)
        | Option.none => False) xs (fun ys => Q (.lst ys))) X
  | .isexc a t, st, Q, X => WE C a st (fun u => match u with
    | .exc c => allX.contains c = true ∧ Q (.bool (subX c t))
    | _ => False) X
  | .only a, st, _, X => WE C a st (fun _ => False) X
noncomputable def WEs (C : Cx) : Es → St → (List V → Prop) → (String → Prop) → Prop
  | .nil, _, Q, _ => Q []
  | .cons e es, st, Q, X => WE C e st (fun v => WEs C es st (fun vs => Q (v :: vs)) X) X
noncomputable def WCh (C : Cx) : Ch → St → V → (Bool → Prop) → (String → Prop) → Prop
  | .one op e, st, u, Q, X => WE C e st (fun v => cmpV st.H op u v Q) X
  | .more op e c, st, u, Q, X => WE C e st (fun v => cmpV st.H op u v (fun b => if b then WCh C c st v Q X else Q false)) X
noncomputable def WI (C : Cx) : It → St → (List V → List Nat → Prop) → (String → Prop) → Prop
  | .seq e, st, Q, X => WE C e st (fun u => match itemsV st.H u with
    | some vs => Q vs (depsV u)
    | Option.none => False) X
  | .rev e, st, Q, X => WE C e st (fun u => match seqL st.H u with
    | some vs => Q vs.reverse (depsV u)
    | Option.none => False) X
  | .range1 n, st, Q, X => WE C n st (fun u => rng1 [u] fun i => Q (upL 0 i) []) X
  | .range2 a b, st, Q, X => WE C a st (fun u => WE C b st (fun v => rng2 [u, v] fun i j => Q (upL i j) []) X) X
  | .range3 a b c, st, Q, X => WE C a st (fun u => WE C b st (fun v => WE C c st (fun w => rng3 [u, v, w] fun i j k => k = -1 ∧ Q (downL i j) []) X) X) X
  | .enum e, st, Q, X => WE C e st (fun u => rowP st.H u fun vs => Q (enumL 0 vs) (depsV u)) X
  | .zip a b, st, Q, X => WE C a st (fun u => WE C b st (fun v => rowP st.H u fun xs => rowP st.H v fun ys => Q (zipL xs ys) (depsV u ++ depsV v)) X) X
  | .keys e, st, Q, X => WE C e st (fun u => dictP st.H u fun a kvs => Q (kvs.map fun p => keyV p.1) [a]) X
end

noncomputable def freshAt (st : St) (a : Nat) : Prop := st.H a = Option.none ∧ st.B a = Option.none

mutual
noncomputable def WA (C : Cx) : A → St → (V → AH → Prop) → (String → Prop) → Prop
  | .pure e, st, Q, X => WE C e st (fun v => Q v st.H) X
  | .thaw e, st, Q, X => WE C e st (fun v => match v with
    | .lst vs => ∀ a, freshAt st a → Q (.ref a) (st.H.upd a (.list vs))
    | _ => False) X
  | .list as, st, Q, X => WAs C as st (fun vs H' => vs.length ≤ sizeLine ∧ ∀ a, H' a = Option.none → st.B a = Option.none → Q (.ref a) (H'.upd a (.list vs))) X
  | .dict, st, Q, _ => ∀ a, freshAt st a → Q (.ref a) (st.H.upd a (.dict []))
  | .new c args, st, Q, X => (match C.cls c with
    | some (k, n, fs) => WEs C args st (fun vs => vs.length = n ∧ ∀ a, freshAt st a → Q (.iref k (fs.map (·.1)) a) (st.H.upd a (.inst k (fs.map (·.1)) (fs.map fun f => iniV vs f.2)))) X
    | Option.none => False)
  | .callO f args, st, Q, X => WEs C args st (fun vs => C.callO f vs st.H (fun ws => ∀ a, freshAt st a → Q (.ref a) (st.H.upd a (.list ws))) X) X
noncomputable def WAs (C : Cx) : As → St → (List V → AH → Prop) → (String → Prop) → Prop
  | .nil, st, Q, _ => Q [] st.H
  | .cons a as, st, Q, X => WA C a st (fun v H' => WAs C as { st with H := H' } (fun vs H'' => Q (v :: vs) H'') X) X
end

mutual
/-- statements that turn nothing but names -/
noncomputable def quietS : S → Bool
  | .expr _ => true
  | .assign _ _ => true
  | .own _ _ => true
  | .ite _ a b => quietB a && quietB b
  | .ret _ => true
  | _ => false
noncomputable def quietB : Bl → Bool
  | .nil => true
  | .cons s b => quietS s && quietB b
end
inductive Fl where
  | next | brk | cont
  | ret (v : V)

noncomputable def whileN (T : St → (Bool → Prop) → Prop) (W : St → (Fl → St → Prop) → Prop) (Q : Fl → St → Prop) : Nat → St → Prop
  | 0, _ => False
  | n + 1, st => T st fun b => if b then W st (fun f st' => match f with
      | .next | .cont => whileN T W Q n st'
      | .brk => Q .next st'
      | .ret v => Q (.ret v) st') else Q .next st

noncomputable def forL (t : Tg) (W : St → (Fl → St → Prop) → Prop) (Q : Fl → St → Prop) : List V → St → Prop
  | [], st => Q .next st
  | x :: xs, st => match bindT t x st.ρ with
    | some ρ' => W { st with ρ := ρ' } (fun f st' => match f with
      | .next | .cont => forL t W Q xs st'
      | .brk => Q .next st'
      | .ret v => Q (.ret v) st')
    | Option.none => False

mutual
noncomputable def WS (C : Cx) : S → St → (Fl → St → Prop) → (String → St → Prop) → Prop
  | .expr e, st, Q, X => WE C e st (fun _ => Q .next st) (fun x => X x st)
  | .assign t e, st, Q, X => WE C e st (fun v => match bindT t v st.ρ with
    | some ρ' => Q .next { st with ρ := ρ' }
    | Option.none => False) (fun x => X x st)
  | .own i a, st, Q, X => WA C a st (fun v H' => match putV i v st.ρ with
    | some ρ' => Q .next { st with ρ := ρ', H := H' }
    | Option.none => False) (fun x => X x st)
  | .append e a, st, Q, X => WE C e st (fun v => match v with
    | .ref ad => (match st.H ad with
      | some (.list _) => WA C a st (fun w H' => match H' ad with
        | some (.list vs) => st.B ad = Option.none ∧ vs.length < sizeLine ∧ Q .next { st with H := H'.upd ad (.list (vs ++ [w])) }
        | _ => False) (fun x => X x st)
      | _ => False)
    | _ => False) (fun x => X x st)
  | .pop t e, st, Q, X => WE C e st (fun v => match v with
    | .ref ad => (match st.H ad with
      | some (.list vs) => (match vs.getLast? with
        | some w => st.B ad = Option.none ∧ (match bindT t w st.ρ with
          | some ρ' => Q .next { st with ρ := ρ', H := st.H.upd ad (.list vs.dropLast) }
          | Option.none => False)
        | Option.none => False)
      | _ => False)
    | _ => False) (fun x => X x st)
  | .setitem e k v, st, Q, X => WE C v st (fun w => WE C e st (fun u => WE C k st (fun kk => setV st.H st.B u kk fun ad vs n => Q .next { st with H := st.H.upd ad (.list (vs.set n w)) }) (fun x => X x st)) (fun x => X x st)) (fun x => X x st)
  | .setkey e k v, st, Q, X => WE C v st (fun w => WE C e st (fun u => WE C k st (fun kk => dictP st.H u fun ad kvs => keyP kk fun ks => st.B ad = Option.none ∧ kvs.length < sizeLine ∧ Q .next { st with H := st.H.upd ad (.dict (dput ks w kvs)) }) (fun x => X x st)) (fun x => X x st)) (fun x => X x st)
  | .setattr e n v, st, Q, X => WE C v st (fun w => WE C e st (fun u => match u with
    | .iref c' ns' ad => st.B ad = Option.none ∧ (match st.H ad with
      | some (.inst c ns vs) => C.has c ns = true ∧ c = c' ∧ ns = ns' ∧ (match setAttrL n w ns vs with
        | some vs' => Q .next { st with H := st.H.upd ad (.inst c ns vs') }
        | Option.none => False)
      | _ => False)
    | _ => False) (fun x => X x st)) (fun x => X x st)
  | .setlast e v, st, Q, X => WE C v st (fun w => WE C e st (fun u => match u with
    | .ref ad => st.B ad = Option.none ∧ (match st.H ad with
      | some (.list vs) => vs ≠ [] ∧ Q .next { st with H := st.H.upd ad (.list (vs.set (vs.length - 1) w)) }
      | _ => False)
    | _ => False) (fun x => X x st)) (fun x => X x st)
  | .ite t a b, st, Q, X => WE C t st (fun u => match truthV st.H u with
    | some true => WB C a st Q X
    | some false => WB C b st Q X
    | Option.none => False) (fun x => X x st)
  | .while t b, st, Q, X => ∃ n, whileN (fun st' K => WE C t st' (fun u => match truthV st'.H u with
      | some r => K r
      | Option.none => False) (fun x => X x st')) (fun st' K => WB C b st' K X) Q n st
  | .for t it b, st, Q, X => WI C it st (fun xs ds => (quietB b = true ∨ ∀ a ∈ ds, st.B a ≠ Option.none) ∧ forL t (fun st' K => WB C b st' K X) Q xs st) (fun x => X x st)
  | .ret e, st, Q, X => WE C e st (fun v => Q (.ret v) st) (fun x => X x st)
  | .retO e, st, Q, X => WE C e st (fun v => match v with
    | .lst vs => ∀ a, freshAt st a → Q (.ret (.ref a)) { st with H := st.H.upd a (.list vs) }
    | _ => False) (fun x => X x st)
  | .raise _ _, _, _, _ => False
  | .rz c m, st, _, X => WE C m st (fun _ => X c st) (fun x => X x st)
  | .tryEx e cl x h, st, Q, X => WE C e st (fun _ => Q .next st) (fun c => subX c cl = true ∧ (match x with
    | Option.none => WB C h st Q (fun _ _ => False)
    | some i => i < st.ρ.length ∧ WB C h { st with ρ := st.ρ.set i (some (.exc c)) } (fun f st' => Q f { st' with ρ := st'.ρ.set i Option.none }) (fun _ _ => False)))
noncomputable def WB (C : Cx) : Bl → St → (Fl → St → Prop) → (String → St → Prop) → Prop
  | .nil, st, Q, _ => Q .next st
  | .cons s b, st, Q, X => WS C s st (fun f st' => match f with
    | .next => WB C b st' Q X
    | f => Q f st') X
end

noncomputable abbrev Tbl := List (String × Fn)
noncomputable abbrev Clss := List (String × Nat × Nat × List (String × Ini))
noncomputable def hasC (cls : Clss) (c : Nat) (ns : List String) : Bool := cls.any fun r => decide (r.2.1 = c) && decide (r.2.2.2.map (·.1) = ns)

noncomputable def runN (tbl : Tbl) (glob : List (String × V)) (cls : Clss) : Nat → RunSem
  | 0 => fun _ _ _ _ _ => False
  | d + 1 => fun f args H Q X => match tbl.lookup f with
    | Option.none => False
    | some fn => args.length = fn.np ∧ fn.np ≤ fn.nv ∧ WB ⟨runN tbl glob cls d, fun x => glob.lookup x, fun x => cls.lookup x, hasC cls⟩ fn.body
        ⟨args.map some ++ List.replicate (fn.nv - fn.np) Option.none, H, H⟩
        (fun fl st => match fl with
          | .ret v => Q v st.H
          | .next => Q .none st.H
          | _ => False) (fun x _ => X x)
noncomputable def cxN (tbl : Tbl) (glob : List (String × V)) (cls : Clss) (d : Nat) : Cx := ⟨runN tbl glob cls d, fun x => glob.lookup x, fun x => cls.lookup x, hasC cls⟩

/-- a thing that an expression has just made -/
noncomputable def isFresh : E → Bool
  | .list _ => true
  | .comp _ _ _ => true
  | .compIf _ _ _ _ => true
  | .listOf _ => true
  | .bin _ _ _ => true
  | _ => false

end Mine
end

set_option autoImplicit false
namespace Mine
open PySem
@[local simp] theorem we_0 {C} {u1} {Q} {u3} : WE C (.none) u1 Q u3 = (Q .none) := rfl
@[local simp] theorem we_1 {C} {b} {u1} {Q} {u3} : WE C (.bool b) u1 Q u3 = (Q (.bool b)) := rfl
@[local simp] theorem we_2 {C} {i} {u1} {Q} {u3} : WE C (.int i) u1 Q u3 = (Q (.int i)) := rfl
@[local simp] theorem we_3 {C} {s} {u1} {Q} {u3} : WE C (.str s) u1 Q u3 = (Q (.str s)) := rfl
theorem we_4 {C} {i} {st} {Q} {u3} : WE C (.var i) st Q u3 = ((match st.ρ[i]? with
    | some (some v) => Q v
    | _ => False)) := rfl
@[local simp] theorem we_5 {C} {x} {u1} {Q} {u3} : WE C (.glob x) u1 Q u3 = ((match C.glob x with
    | some v => Q v
    | Option.none => False)) := rfl
@[local simp] theorem we_6 {C} {op} {a} {b} {st} {Q} {X} : WE C (.bin op a b) st Q X = (WE C a st (fun u => WE C b st (fun v => binV st.H op u v Q) X) X) := rfl
@[local simp] theorem we_7 {C} {a} {st} {Q} {X} : WE C (.neg a) st Q X = (WE C a st (fun u => match u with
    | .int i => Q (.int (-i))
    | _ => False) X) := rfl
@[local simp] theorem we_8 {C} {a} {st} {Q} {X} : WE C (.not a) st Q X = (WE C a st (fun u => match truthV st.H u with
    | some b => Q (.bool (!b))
    | Option.none => False) X) := rfl
@[local simp] theorem we_9 {C} {a} {b} {st} {Q} {X} : WE C (.and a b) st Q X = (WE C a st (fun u => match truthV st.H u with
    | some true => WE C b st Q X
    | some false => Q u
    | Option.none => False) X) := rfl
@[local simp] theorem we_10 {C} {a} {b} {st} {Q} {X} : WE C (.or a b) st Q X = (WE C a st (fun u => match truthV st.H u with
    | some true => Q u
    | some false => WE C b st Q X
    | Option.none => False) X) := rfl
@[local simp] theorem we_11 {C} {t} {a} {b} {st} {Q} {X} : WE C (.ite t a b) st Q X = (WE C t st (fun u => match truthV st.H u with
    | some true => WE C a st Q X
    | some false => WE C b st Q X
    | Option.none => False) X) := rfl
@[local simp] theorem we_12 {C} {es} {st} {Q} {X} : WE C (.list es) st Q X = (WEs C es st (fun vs => vs.length ≤ sizeLine ∧ Q (.lst vs)) X) := rfl
@[local simp] theorem we_13 {C} {es} {st} {Q} {X} : WE C (.tup es) st Q X = (WEs C es st (fun vs => vs.length ≤ sizeLine ∧ Q (.tup vs)) X) := rfl
@[local simp] theorem we_14 {C} {a} {c} {st} {Q} {X} : WE C (.cmp a c) st Q X = (WE C a st (fun u => WCh C c st u (fun b => Q (.bool b)) X) X) := rfl
@[local simp] theorem we_15 {C} {a} {i} {st} {Q} {X} : WE C (.sub a i) st Q X = (WE C a st (fun u => WE C i st (fun k => subV st.H u k Q) X) X) := rfl
@[local simp] theorem we_16 {C} {a} {lo} {hi} {st} {Q} {X} : WE C (.slice a lo hi) st Q X = (WE C a st (fun u => WE C lo st (fun l => WE C hi st (fun h => sliceV st.H u l h Q) X) X) X) := rfl
@[local simp] theorem we_17 {C} {f} {args} {st} {Q} {X} : WE C (.call f args) st Q X = (WEs C args st (fun vs => C.call f vs st.H Q X) X) := rfl
@[local simp] theorem we_18 {C} {a} {t} {st} {Q} {X} : WE C (.isinst a t) st Q X = (WE C a st (fun u => match isT st.H t u with
    | some b => Q (.bool b)
    | Option.none => False) X) := rfl
@[local simp] theorem we_19 {C} {a} {st} {Q} {X} : WE C (.len a) st Q X = (WE C a st (fun u => match sizeV st.H u with
    | some n => Q (.int n)
    | Option.none => False) X) := rfl
@[local simp] theorem we_20 {C} {a} {st} {Q} {X} : WE C (.sum a) st Q X = (WE C a st (fun u => sum1 st.H [u] fun n => Q (.int n)) X) := rfl
@[local simp] theorem we_21 {C} {a} {b} {st} {Q} {X} : WE C (.max2 a b) st Q X = (WE C a st (fun u => WE C b st (fun v => int2 [u, v] fun i j => Q (.int (if j > i then j else i))) X) X) := rfl
@[local simp] theorem we_22 {C} {a} {b} {st} {Q} {X} : WE C (.min2 a b) st Q X = (WE C a st (fun u => WE C b st (fun v => int2 [u, v] fun i j => Q (.int (if j < i then j else i))) X) X) := rfl
@[local simp] theorem we_23 {C} {a} {st} {Q} {X} : WE C (.maxl a) st Q X = (WE C a st (fun u => max1 st.H [u] fun n => Q (.int n)) X) := rfl
@[local simp] theorem we_24 {C} {a} {d} {st} {Q} {X} : WE C (.maxd a d) st Q X = (WE C a st (fun u => WE C d st (fun v => maxD st.H u v Q) X) X) := rfl
@[local simp] theorem we_25 {C} {a} {st} {Q} {X} : WE C (.strOf a) st Q X = (WE C a st (fun u => intP u fun i => i.natAbs < 2 ^ 62 ∧ Q (.str (Str.ofString (toString i)))) X) := rfl
@[local simp] theorem we_26 {C} {a} {st} {Q} {X} : WE C (.intOf a) st Q X = (WE C a st (fun u => intOfV u Q) X) := rfl
@[local simp] theorem we_27 {C} {a} {st} {Q} {X} : WE C (.tupOf a) st Q X = (WE C a st (fun u => seqP st.H u fun vs => Q (.tup vs)) X) := rfl
@[local simp] theorem we_28 {C} {it} {st} {Q} {X} : WE C (.listOf it) st Q X = (WI C it st (fun vs _ => vs.length ≤ sizeLine ∧ Q (.lst vs)) X) := rfl
@[local simp] theorem we_29 {C} {s} {a} {st} {Q} {X} : WE C (.join s a) st Q X = (WE C s st (fun u => WE C a st (fun v => match u, (seqL st.H v).bind strsOf with
    | .str s, some ss => lenAll ss + s.length * ss.length ≤ sizeLine ∧ Q (.str (Str.join s ss))
    | _, _ => False) X) X) := rfl
@[local simp] theorem we_30 {C} {d} {k} {v} {st} {Q} {X} : WE C (.get d k v) st Q X = (WE C d st (fun u => dictP st.H u fun _ kvs => WE C k st (fun kk => WE C v st (fun w => keyP kk fun ks => Q ((dlook ks kvs).getD w)) X) X) X) := rfl
@[local simp] theorem we_31 {C} {u1} {Q} {u3} : WE C (.dict0) u1 Q u3 = (Q .dct) := rfl
@[local simp] theorem we_32 {C} {a} {n} {st} {Q} {X} : WE C (.attr a n) st Q X = (WE C a st (fun u => match u with
    | .inst c ns vs => C.has c ns = true ∧ (match attrL n ns vs with
      | some v => Q v
      | Option.none => False)
    | .iref c ns ad => (match st.H ad with
      | some (.inst c' ns' vs) => C.has c ns = true ∧ c' = c ∧ ns' = ns ∧ (match attrL n ns vs with
        | some v => Q v
        | Option.none => False)
      | _ => False)
    | _ => False) X) := rfl
@[local simp] theorem we_33 {C} {c} {args} {st} {Q} {X} : WE C (.new c args) st Q X = ((match C.cls c with
    | some (k, n, fs) => WEs C args st (fun vs => vs.length = n ∧ Q (.inst k (fs.map (·.1)) (fs.map fun f => iniV vs f.2))) X
    | Option.none => False)) := rfl
@[local simp] theorem we_34 {C} {elt} {t} {it} {st} {Q} {X} : WE C (.comp elt t it) st Q X = (WI C it st (fun xs _ => xs.length ≤ sizeLine ∧
      compL (fun x k => match bindT t x st.ρ with
        | some ρ' => WE C elt { st with ρ := ρ' } (fun y => k (some y)) (fun _ => False)
        | Option.none => False) xs (fun ys => Q (.lst ys))) X) := rfl
@[local simp] theorem we_35 {C} {elt} {t} {it} {c} {st} {Q} {X} : WE C (.compIf elt t it c) st Q X = (WI C it st (fun xs _ => xs.length ≤ sizeLine ∧
      compL (fun x k => match bindT t x st.ρ with
        | some ρ' => WE C c { st with ρ := ρ' } (fun u => match truthV st.H u with
          | some true => WE C elt { st with ρ := ρ' } (fun y => k (some y)) (fun _ => False)
          | some false => k Option.none
          | Option.none => False) (fun _ => False)
        | Option.none => False) xs (fun ys => Q (.lst ys))) X) := rfl
@[local simp] theorem we_36 {C} {a} {t} {st} {Q} {X} : WE C (.isexc a t) st Q X = (WE C a st (fun u => match u with
    | .exc c => allX.contains c = true ∧ Q (.bool (subX c t))
    | _ => False) X) := rfl
@[local simp] theorem we_37 {C} {a} {st} {u2} {X} : WE C (.only a) st u2 X = (WE C a st (fun _ => False) X) := rfl
@[local simp] theorem wes_0 {C} {u1} {Q} {u3} : WEs C (.nil) u1 Q u3 = (Q []) := rfl
@[local simp] theorem wes_1 {C} {e} {es} {st} {Q} {X} : WEs C (.cons e es) st Q X = (WE C e st (fun v => WEs C es st (fun vs => Q (v :: vs)) X) X) := rfl
@[local simp] theorem wch_0 {C} {op} {e} {st} {u} {Q} {X} : WCh C (.one op e) st u Q X = (WE C e st (fun v => cmpV st.H op u v Q) X) := rfl
@[local simp] theorem wch_1 {C} {op} {e} {c} {st} {u} {Q} {X} : WCh C (.more op e c) st u Q X = (WE C e st (fun v => cmpV st.H op u v (fun b => if b then WCh C c st v Q X else Q false)) X) := rfl
@[local simp] theorem wi_0 {C} {e} {st} {Q} {X} : WI C (.seq e) st Q X = (WE C e st (fun u => match itemsV st.H u with
    | some vs => Q vs (depsV u)
    | Option.none => False) X) := rfl
@[local simp] theorem wi_1 {C} {e} {st} {Q} {X} : WI C (.rev e) st Q X = (WE C e st (fun u => match seqL st.H u with
    | some vs => Q vs.reverse (depsV u)
    | Option.none => False) X) := rfl
@[local simp] theorem wi_2 {C} {n} {st} {Q} {X} : WI C (.range1 n) st Q X = (WE C n st (fun u => rng1 [u] fun i => Q (upL 0 i) []) X) := rfl
@[local simp] theorem wi_3 {C} {a} {b} {st} {Q} {X} : WI C (.range2 a b) st Q X = (WE C a st (fun u => WE C b st (fun v => rng2 [u, v] fun i j => Q (upL i j) []) X) X) := rfl
@[local simp] theorem wi_4 {C} {a} {b} {c} {st} {Q} {X} : WI C (.range3 a b c) st Q X = (WE C a st (fun u => WE C b st (fun v => WE C c st (fun w => rng3 [u, v, w] fun i j k => k = -1 ∧ Q (downL i j) []) X) X) X) := rfl
@[local simp] theorem wi_5 {C} {e} {st} {Q} {X} : WI C (.enum e) st Q X = (WE C e st (fun u => rowP st.H u fun vs => Q (enumL 0 vs) (depsV u)) X) := rfl
@[local simp] theorem wi_6 {C} {a} {b} {st} {Q} {X} : WI C (.zip a b) st Q X = (WE C a st (fun u => WE C b st (fun v => rowP st.H u fun xs => rowP st.H v fun ys => Q (zipL xs ys) (depsV u ++ depsV v)) X) X) := rfl
@[local simp] theorem wi_7 {C} {e} {st} {Q} {X} : WI C (.keys e) st Q X = (WE C e st (fun u => dictP st.H u fun a kvs => Q (kvs.map fun p => keyV p.1) [a]) X) := rfl
@[local simp] theorem wa_0 {C} {e} {st} {Q} {X} : WA C (.pure e) st Q X = (WE C e st (fun v => Q v st.H) X) := rfl
@[local simp] theorem wa_1 {C} {e} {st} {Q} {X} : WA C (.thaw e) st Q X = (WE C e st (fun v => match v with
    | .lst vs => ∀ a, freshAt st a → Q (.ref a) (st.H.upd a (.list vs))
    | _ => False) X) := rfl
@[local simp] theorem wa_2 {C} {as} {st} {Q} {X} : WA C (.list as) st Q X = (WAs C as st (fun vs H' => vs.length ≤ sizeLine ∧ ∀ a, H' a = Option.none → st.B a = Option.none → Q (.ref a) (H'.upd a (.list vs))) X) := rfl
@[local simp] theorem wa_3 {C} {st} {Q} {u3} : WA C (.dict) st Q u3 = (∀ a, freshAt st a → Q (.ref a) (st.H.upd a (.dict []))) := rfl
@[local simp] theorem wa_4 {C} {c} {args} {st} {Q} {X} : WA C (.new c args) st Q X = ((match C.cls c with
    | some (k, n, fs) => WEs C args st (fun vs => vs.length = n ∧ ∀ a, freshAt st a → Q (.iref k (fs.map (·.1)) a) (st.H.upd a (.inst k (fs.map (·.1)) (fs.map fun f => iniV vs f.2)))) X
    | Option.none => False)) := rfl
@[local simp] theorem wa_5 {C} {f} {args} {st} {Q} {X} : WA C (.callO f args) st Q X = (WEs C args st (fun vs => C.callO f vs st.H (fun ws => ∀ a, freshAt st a → Q (.ref a) (st.H.upd a (.list ws))) X) X) := rfl
@[local simp] theorem was_0 {C} {st} {Q} {u3} : WAs C (.nil) st Q u3 = (Q [] st.H) := rfl
@[local simp] theorem was_1 {C} {a} {as} {st} {Q} {X} : WAs C (.cons a as) st Q X = (WA C a st (fun v H' => WAs C as { st with H := H' } (fun vs H'' => Q (v :: vs) H'') X) X) := rfl
@[local simp] theorem ws_0 {C} {e} {st} {Q} {X} : WS C (.expr e) st Q X = (WE C e st (fun _ => Q .next st) (fun x => X x st)) := rfl
@[local simp] theorem ws_1 {C} {t} {e} {st} {Q} {X} : WS C (.assign t e) st Q X = (WE C e st (fun v => match bindT t v st.ρ with
    | some ρ' => Q .next { st with ρ := ρ' }
    | Option.none => False) (fun x => X x st)) := rfl
@[local simp] theorem ws_2 {C} {i} {a} {st} {Q} {X} : WS C (.own i a) st Q X = (WA C a st (fun v H' => match putV i v st.ρ with
    | some ρ' => Q .next { st with ρ := ρ', H := H' }
    | Option.none => False) (fun x => X x st)) := rfl
@[local simp] theorem ws_3 {C} {e} {a} {st} {Q} {X} : WS C (.append e a) st Q X = (WE C e st (fun v => match v with
    | .ref ad => (match st.H ad with
      | some (.list _) => WA C a st (fun w H' => match H' ad with
        | some (.list vs) => st.B ad = Option.none ∧ vs.length < sizeLine ∧ Q .next { st with H := H'.upd ad (.list (vs ++ [w])) }
        | _ => False) (fun x => X x st)
      | _ => False)
    | _ => False) (fun x => X x st)) := rfl
@[local simp] theorem ws_4 {C} {t} {e} {st} {Q} {X} : WS C (.pop t e) st Q X = (WE C e st (fun v => match v with
    | .ref ad => (match st.H ad with
      | some (.list vs) => (match vs.getLast? with
        | some w => st.B ad = Option.none ∧ (match bindT t w st.ρ with
          | some ρ' => Q .next { st with ρ := ρ', H := st.H.upd ad (.list vs.dropLast) }
          | Option.none => False)
        | Option.none => False)
      | _ => False)
    | _ => False) (fun x => X x st)) := rfl
@[local simp] theorem ws_5 {C} {e} {k} {v} {st} {Q} {X} : WS C (.setitem e k v) st Q X = (WE C v st (fun w => WE C e st (fun u => WE C k st (fun kk => setV st.H st.B u kk fun ad vs n => Q .next { st with H := st.H.upd ad (.list (vs.set n w)) }) (fun x => X x st)) (fun x => X x st)) (fun x => X x st)) := rfl
@[local simp] theorem ws_6 {C} {e} {k} {v} {st} {Q} {X} : WS C (.setkey e k v) st Q X = (WE C v st (fun w => WE C e st (fun u => WE C k st (fun kk => dictP st.H u fun ad kvs => keyP kk fun ks => st.B ad = Option.none ∧ kvs.length < sizeLine ∧ Q .next { st with H := st.H.upd ad (.dict (dput ks w kvs)) }) (fun x => X x st)) (fun x => X x st)) (fun x => X x st)) := rfl
@[local simp] theorem ws_7 {C} {e} {n} {v} {st} {Q} {X} : WS C (.setattr e n v) st Q X = (WE C v st (fun w => WE C e st (fun u => match u with
    | .iref c' ns' ad => st.B ad = Option.none ∧ (match st.H ad with
      | some (.inst c ns vs) => C.has c ns = true ∧ c = c' ∧ ns = ns' ∧ (match setAttrL n w ns vs with
        | some vs' => Q .next { st with H := st.H.upd ad (.inst c ns vs') }
        | Option.none => False)
      | _ => False)
    | _ => False) (fun x => X x st)) (fun x => X x st)) := rfl
@[local simp] theorem ws_8 {C} {e} {v} {st} {Q} {X} : WS C (.setlast e v) st Q X = (WE C v st (fun w => WE C e st (fun u => match u with
    | .ref ad => st.B ad = Option.none ∧ (match st.H ad with
      | some (.list vs) => vs ≠ [] ∧ Q .next { st with H := st.H.upd ad (.list (vs.set (vs.length - 1) w)) }
      | _ => False)
    | _ => False) (fun x => X x st)) (fun x => X x st)) := rfl
@[local simp] theorem ws_9 {C} {t} {a} {b} {st} {Q} {X} : WS C (.ite t a b) st Q X = (WE C t st (fun u => match truthV st.H u with
    | some true => WB C a st Q X
    | some false => WB C b st Q X
    | Option.none => False) (fun x => X x st)) := rfl
@[local simp] theorem ws_10 {C} {t} {b} {st} {Q} {X} : WS C (.while t b) st Q X = (∃ n, whileN (fun st' K => WE C t st' (fun u => match truthV st'.H u with
      | some r => K r
      | Option.none => False) (fun x => X x st')) (fun st' K => WB C b st' K X) Q n st) := rfl
@[local simp] theorem ws_11 {C} {t} {it} {b} {st} {Q} {X} : WS C (.for t it b) st Q X = (WI C it st (fun xs ds => (quietB b = true ∨ ∀ a ∈ ds, st.B a ≠ Option.none) ∧ forL t (fun st' K => WB C b st' K X) Q xs st) (fun x => X x st)) := rfl
@[local simp] theorem ws_12 {C} {e} {st} {Q} {X} : WS C (.ret e) st Q X = (WE C e st (fun v => Q (.ret v) st) (fun x => X x st)) := rfl
@[local simp] theorem ws_13 {C} {e} {st} {Q} {X} : WS C (.retO e) st Q X = (WE C e st (fun v => match v with
    | .lst vs => ∀ a, freshAt st a → Q (.ret (.ref a)) { st with H := st.H.upd a (.list vs) }
    | _ => False) (fun x => X x st)) := rfl
@[local simp] theorem ws_14 {C} {w0_7} {w0_9} {u1} {u2} {u3} : WS C (.raise w0_7 w0_9) u1 u2 u3 = (False) := rfl
@[local simp] theorem ws_15 {C} {c} {m} {st} {u2} {X} : WS C (.rz c m) st u2 X = (WE C m st (fun _ => X c st) (fun x => X x st)) := rfl
@[local simp] theorem ws_16 {C} {e} {cl} {x} {h} {st} {Q} {X} : WS C (.tryEx e cl x h) st Q X = (WE C e st (fun _ => Q .next st) (fun c => subX c cl = true ∧ (match x with
    | Option.none => WB C h st Q (fun _ _ => False)
    | some i => i < st.ρ.length ∧ WB C h { st with ρ := st.ρ.set i (some (.exc c)) } (fun f st' => Q f { st' with ρ := st'.ρ.set i Option.none }) (fun _ _ => False)))) := rfl
theorem wb_0 {C} {st} {Q} {u3} : WB C (.nil) st Q u3 = (Q .next st) := rfl
theorem wb_1 {C} {s} {b} {st} {Q} {X} : WB C (.cons s b) st Q X = (WS C s st (fun f st' => match f with
    | .next => WB C b st' Q X
    | f => Q f st') X) := rfl
@[local simp] theorem tv_none {H : AH}  : truthV H .none = Option.none := rfl
@[local simp] theorem tv_bool {H : AH} {b : Bool} : truthV H (.bool b) = some b := rfl
@[local simp] theorem tv_int {H : AH} {i : Int} : truthV H (.int i) = Option.none := rfl
@[local simp] theorem tv_str {H : AH} {s : Str} : truthV H (.str s) = Option.none := rfl
@[local simp] theorem tv_tup {H : AH} {vs : List V} : truthV H (.tup vs) = Option.none := rfl
@[local simp] theorem tv_lst {H : AH} {vs : List V} : truthV H (.lst vs) = Option.none := rfl
@[local simp] theorem tv_ref {H : AH} {a : Nat} : truthV H (.ref a) = Option.none := rfl
@[local simp] theorem tv_inst {H : AH} {c : Nat} {ns : List String} {vs : List V} : truthV H (.inst c ns vs) = Option.none := rfl
@[local simp] theorem tv_iref {H : AH} {c : Nat} {ns : List String} {a : Nat} : truthV H (.iref c ns a) = Option.none := rfl
@[local simp] theorem tv_exc {H : AH} {c : String} : truthV H (.exc c) = Option.none := rfl
@[local simp] theorem tv_dct {H : AH}  : truthV H .dct = Option.none := rfl
@[local simp] theorem iv_none {H : AH}  : itemsV H .none = Option.none := rfl
@[local simp] theorem iv_bool {H : AH} {b : Bool} : itemsV H (.bool b) = Option.none := rfl
@[local simp] theorem iv_int {H : AH} {i : Int} : itemsV H (.int i) = Option.none := rfl
@[local simp] theorem iv_str {H : AH} {s : Str} : itemsV H (.str s) = some (signsOf s) := rfl
@[local simp] theorem iv_tup {H : AH} {vs : List V} : itemsV H (.tup vs) = some vs := rfl
@[local simp] theorem iv_lst {H : AH} {vs : List V} : itemsV H (.lst vs) = some vs := rfl
@[local simp] theorem iv_ref {H : AH} {a : Nat} : itemsV H (.ref a) = (match H a with
    | some (.list vs) => some vs
    | _ => Option.none) := rfl
@[local simp] theorem iv_inst {H : AH} {c : Nat} {ns : List String} {vs : List V} : itemsV H (.inst c ns vs) = Option.none := rfl
@[local simp] theorem iv_iref {H : AH} {c : Nat} {ns : List String} {a : Nat} : itemsV H (.iref c ns a) = Option.none := rfl
@[local simp] theorem iv_exc {H : AH} {c : String} : itemsV H (.exc c) = Option.none := rfl
@[local simp] theorem iv_dct {H : AH}  : itemsV H .dct = Option.none := rfl
@[local simp] theorem sq_none {H : AH}  : seqL H .none = Option.none := rfl
@[local simp] theorem sq_bool {H : AH} {b : Bool} : seqL H (.bool b) = Option.none := rfl
@[local simp] theorem sq_int {H : AH} {i : Int} : seqL H (.int i) = Option.none := rfl
@[local simp] theorem sq_str {H : AH} {s : Str} : seqL H (.str s) = Option.none := rfl
@[local simp] theorem sq_tup {H : AH} {vs : List V} : seqL H (.tup vs) = Option.none := rfl
@[local simp] theorem sq_lst {H : AH} {vs : List V} : seqL H (.lst vs) = some vs := rfl
@[local simp] theorem sq_ref {H : AH} {a : Nat} : seqL H (.ref a) = (match H a with
    | some (.list vs) => some vs
    | _ => Option.none) := rfl
@[local simp] theorem sq_inst {H : AH} {c : Nat} {ns : List String} {vs : List V} : seqL H (.inst c ns vs) = Option.none := rfl
@[local simp] theorem sq_iref {H : AH} {c : Nat} {ns : List String} {a : Nat} : seqL H (.iref c ns a) = Option.none := rfl
@[local simp] theorem sq_exc {H : AH} {c : String} : seqL H (.exc c) = Option.none := rfl
@[local simp] theorem sq_dct {H : AH}  : seqL H .dct = Option.none := rfl
@[local simp] theorem zv_none {H : AH}  : sizeV H .none = Option.none := rfl
@[local simp] theorem zv_bool {H : AH} {b : Bool} : sizeV H (.bool b) = Option.none := rfl
@[local simp] theorem zv_int {H : AH} {i : Int} : sizeV H (.int i) = Option.none := rfl
@[local simp] theorem zv_str {H : AH} {s : Str} : sizeV H (.str s) = some s.length := rfl
@[local simp] theorem zv_tup {H : AH} {vs : List V} : sizeV H (.tup vs) = some vs.length := rfl
@[local simp] theorem zv_lst {H : AH} {vs : List V} : sizeV H (.lst vs) = some vs.length := rfl
@[local simp] theorem zv_ref {H : AH} {a : Nat} : sizeV H (.ref a) = (match H a with
    | some (.list vs) => some vs.length
    | _ => Option.none) := rfl
@[local simp] theorem zv_inst {H : AH} {c : Nat} {ns : List String} {vs : List V} : sizeV H (.inst c ns vs) = Option.none := rfl
@[local simp] theorem zv_iref {H : AH} {c : Nat} {ns : List String} {a : Nat} : sizeV H (.iref c ns a) = Option.none := rfl
@[local simp] theorem zv_exc {H : AH} {c : String} : sizeV H (.exc c) = Option.none := rfl
@[local simp] theorem zv_dct {H : AH}  : sizeV H .dct = Option.none := rfl
@[local simp] theorem dv_none   : depsV .none = [] := rfl
@[local simp] theorem dv_bool  {b : Bool} : depsV (.bool b) = [] := rfl
@[local simp] theorem dv_int  {i : Int} : depsV (.int i) = [] := rfl
@[local simp] theorem dv_str  {s : Str} : depsV (.str s) = [] := rfl
@[local simp] theorem dv_tup  {vs : List V} : depsV (.tup vs) = [] := rfl
@[local simp] theorem dv_lst  {vs : List V} : depsV (.lst vs) = [] := rfl
@[local simp] theorem dv_ref  {a : Nat} : depsV (.ref a) = [a] := rfl
@[local simp] theorem dv_inst  {c : Nat} {ns : List String} {vs : List V} : depsV (.inst c ns vs) = [] := rfl
@[local simp] theorem dv_iref  {c : Nat} {ns : List String} {a : Nat} : depsV (.iref c ns a) = [] := rfl
@[local simp] theorem dv_exc  {c : String} : depsV (.exc c) = [] := rfl
@[local simp] theorem dv_dct   : depsV .dct = [] := rfl
theorem rv_none {H : AH}  : resV H .none = .none := rfl
theorem rv_bool {H : AH} {b : Bool} : resV H (.bool b) = (.bool b) := rfl
theorem rv_int {H : AH} {i : Int} : resV H (.int i) = (.int i) := rfl
theorem rv_str {H : AH} {s : Str} : resV H (.str s) = (.str s) := rfl
theorem rv_tup {H : AH} {vs : List V} : resV H (.tup vs) = (.tup vs) := rfl
theorem rv_lst {H : AH} {vs : List V} : resV H (.lst vs) = (.lst vs) := rfl
theorem rv_ref {H : AH} {a : Nat} : resV H (.ref a) = (match H a with
    | some (.list vs) => .lst vs
    | _ => .ref a) := rfl
theorem rv_inst {H : AH} {c : Nat} {ns : List String} {vs : List V} : resV H (.inst c ns vs) = (.inst c ns vs) := rfl
theorem rv_iref {H : AH} {c : Nat} {ns : List String} {a : Nat} : resV H (.iref c ns a) = (.iref c ns a) := rfl
theorem rv_exc {H : AH} {c : String} : resV H (.exc c) = (.exc c) := rfl
theorem rv_dct {H : AH}  : resV H .dct = .dct := rfl
theorem td_none   : toD .none = some .none := rfl
theorem td_bool  {b : Bool} : toD (.bool b) = some (.bool b) := rfl
theorem td_int  {i : Int} : toD (.int i) = some (.int i) := rfl
theorem td_str  {s : Str} : toD (.str s) = some (.str s) := rfl
theorem td_tup  {vs : List V} : toD (.tup vs) = (toDs vs).map .tuple := rfl
theorem td_lst  {vs : List V} : toD (.lst vs) = (toDs vs).map .list := rfl
theorem td_ref  {a : Nat} : toD (.ref a) = Option.none := rfl
theorem td_inst  {c : Nat} {ns : List String} {vs : List V} : toD (.inst c ns vs) = Option.none := rfl
theorem td_iref  {c : Nat} {ns : List String} {a : Nat} : toD (.iref c ns a) = Option.none := rfl
theorem td_exc  {c : String} : toD (.exc c) = Option.none := rfl
theorem td_dct   : toD .dct = Option.none := rfl
theorem tds_nil  : toDs [] = some [] := rfl
theorem tds_cons {v : V} {vs : List V} : toDs (v :: vs) = (match toD v, toDs vs with
    | some d, some ds => some (d :: ds)
    | _, _ => Option.none) := rfl
@[local simp] theorem ist_none {H : AH} {t : Ty}  : isT H t .none = isV t .none := rfl
@[local simp] theorem ist_bool {H : AH} {t : Ty} {b : Bool} : isT H t (.bool b) = isV t (.bool b) := rfl
@[local simp] theorem ist_int {H : AH} {t : Ty} {i : Int} : isT H t (.int i) = isV t (.int i) := rfl
@[local simp] theorem ist_str {H : AH} {t : Ty} {s : Str} : isT H t (.str s) = isV t (.str s) := rfl
@[local simp] theorem ist_tup {H : AH} {t : Ty} {vs : List V} : isT H t (.tup vs) = isV t (.tup vs) := rfl
@[local simp] theorem ist_lst {H : AH} {t : Ty} {vs : List V} : isT H t (.lst vs) = isV t (.lst vs) := rfl
@[local simp] theorem ist_ref {H : AH} {t : Ty} {a : Nat} : isT H t (.ref a) = (match H a with
    | some (.list _) => isV t (.lst [])
    | _ => Option.none) := rfl
@[local simp] theorem ist_inst {H : AH} {t : Ty} {c : Nat} {ns : List String} {vs : List V} : isT H t (.inst c ns vs) = isV t (.inst c ns vs) := rfl
@[local simp] theorem ist_iref {H : AH} {t : Ty} {c : Nat} {ns : List String} {a : Nat} : isT H t (.iref c ns a) = isV t (.iref c ns a) := rfl
@[local simp] theorem ist_exc {H : AH} {t : Ty} {c : String} : isT H t (.exc c) = isV t (.exc c) := rfl
@[local simp] theorem ist_dct {H : AH} {t : Ty}  : isT H t .dct = isV t .dct := rfl
@[local simp] theorem isv_int_none  : isV .int .none = some false := rfl
@[local simp] theorem isv_int_bool {b : Bool} : isV .int (.bool b) = some true := rfl
@[local simp] theorem isv_int_int {i : Int} : isV .int (.int i) = some true := rfl
@[local simp] theorem isv_int_str {s : Str} : isV .int (.str s) = some false := rfl
@[local simp] theorem isv_int_tup {vs : List V} : isV .int (.tup vs) = some false := rfl
@[local simp] theorem isv_int_lst {vs : List V} : isV .int (.lst vs) = some false := rfl
@[local simp] theorem isv_int_ref {a : Nat} : isV .int (.ref a) = Option.none := rfl
@[local simp] theorem isv_int_inst {c : Nat} {ns : List String} {vs : List V} : isV .int (.inst c ns vs) = Option.none := rfl
@[local simp] theorem isv_int_iref {c : Nat} {ns : List String} {a : Nat} : isV .int (.iref c ns a) = Option.none := rfl
@[local simp] theorem isv_int_exc {c : String} : isV .int (.exc c) = Option.none := rfl
@[local simp] theorem isv_int_dct  : isV .int .dct = some false := rfl
@[local simp] theorem isv_bool_none  : isV .bool .none = some false := rfl
@[local simp] theorem isv_bool_bool {b : Bool} : isV .bool (.bool b) = some true := rfl
@[local simp] theorem isv_bool_int {i : Int} : isV .bool (.int i) = some false := rfl
@[local simp] theorem isv_bool_str {s : Str} : isV .bool (.str s) = some false := rfl
@[local simp] theorem isv_bool_tup {vs : List V} : isV .bool (.tup vs) = some false := rfl
@[local simp] theorem isv_bool_lst {vs : List V} : isV .bool (.lst vs) = some false := rfl
@[local simp] theorem isv_bool_ref {a : Nat} : isV .bool (.ref a) = Option.none := rfl
@[local simp] theorem isv_bool_inst {c : Nat} {ns : List String} {vs : List V} : isV .bool (.inst c ns vs) = Option.none := rfl
@[local simp] theorem isv_bool_iref {c : Nat} {ns : List String} {a : Nat} : isV .bool (.iref c ns a) = Option.none := rfl
@[local simp] theorem isv_bool_exc {c : String} : isV .bool (.exc c) = Option.none := rfl
@[local simp] theorem isv_bool_dct  : isV .bool .dct = some false := rfl
@[local simp] theorem isv_str_none  : isV .str .none = some false := rfl
@[local simp] theorem isv_str_bool {b : Bool} : isV .str (.bool b) = some false := rfl
@[local simp] theorem isv_str_int {i : Int} : isV .str (.int i) = some false := rfl
@[local simp] theorem isv_str_str {s : Str} : isV .str (.str s) = some true := rfl
@[local simp] theorem isv_str_tup {vs : List V} : isV .str (.tup vs) = some false := rfl
@[local simp] theorem isv_str_lst {vs : List V} : isV .str (.lst vs) = some false := rfl
@[local simp] theorem isv_str_ref {a : Nat} : isV .str (.ref a) = Option.none := rfl
@[local simp] theorem isv_str_inst {c : Nat} {ns : List String} {vs : List V} : isV .str (.inst c ns vs) = Option.none := rfl
@[local simp] theorem isv_str_iref {c : Nat} {ns : List String} {a : Nat} : isV .str (.iref c ns a) = Option.none := rfl
@[local simp] theorem isv_str_exc {c : String} : isV .str (.exc c) = Option.none := rfl
@[local simp] theorem isv_str_dct  : isV .str .dct = some false := rfl
@[local simp] theorem isv_tuple_none  : isV .tuple .none = some false := rfl
@[local simp] theorem isv_tuple_bool {b : Bool} : isV .tuple (.bool b) = some false := rfl
@[local simp] theorem isv_tuple_int {i : Int} : isV .tuple (.int i) = some false := rfl
@[local simp] theorem isv_tuple_str {s : Str} : isV .tuple (.str s) = some false := rfl
@[local simp] theorem isv_tuple_tup {vs : List V} : isV .tuple (.tup vs) = some true := rfl
@[local simp] theorem isv_tuple_lst {vs : List V} : isV .tuple (.lst vs) = some false := rfl
@[local simp] theorem isv_tuple_ref {a : Nat} : isV .tuple (.ref a) = Option.none := rfl
@[local simp] theorem isv_tuple_inst {c : Nat} {ns : List String} {vs : List V} : isV .tuple (.inst c ns vs) = Option.none := rfl
@[local simp] theorem isv_tuple_iref {c : Nat} {ns : List String} {a : Nat} : isV .tuple (.iref c ns a) = Option.none := rfl
@[local simp] theorem isv_tuple_exc {c : String} : isV .tuple (.exc c) = Option.none := rfl
@[local simp] theorem isv_tuple_dct  : isV .tuple .dct = some false := rfl
@[local simp] theorem isv_list_none  : isV .list .none = some false := rfl
@[local simp] theorem isv_list_bool {b : Bool} : isV .list (.bool b) = some false := rfl
@[local simp] theorem isv_list_int {i : Int} : isV .list (.int i) = some false := rfl
@[local simp] theorem isv_list_str {s : Str} : isV .list (.str s) = some false := rfl
@[local simp] theorem isv_list_tup {vs : List V} : isV .list (.tup vs) = some false := rfl
@[local simp] theorem isv_list_lst {vs : List V} : isV .list (.lst vs) = some true := rfl
@[local simp] theorem isv_list_ref {a : Nat} : isV .list (.ref a) = Option.none := rfl
@[local simp] theorem isv_list_inst {c : Nat} {ns : List String} {vs : List V} : isV .list (.inst c ns vs) = Option.none := rfl
@[local simp] theorem isv_list_iref {c : Nat} {ns : List String} {a : Nat} : isV .list (.iref c ns a) = Option.none := rfl
@[local simp] theorem isv_list_exc {c : String} : isV .list (.exc c) = Option.none := rfl
@[local simp] theorem isv_list_dct  : isV .list .dct = some false := rfl
theorem isv_own_none {cc : String}  : isV (.own cc) .none = Option.none := rfl
theorem isv_ve_none  : isV .ValueError .none = Option.none := rfl
theorem isv_own_bool {cc : String} {b : Bool} : isV (.own cc) (.bool b) = Option.none := rfl
theorem isv_ve_bool {b : Bool} : isV .ValueError (.bool b) = Option.none := rfl
theorem isv_own_int {cc : String} {i : Int} : isV (.own cc) (.int i) = Option.none := rfl
theorem isv_ve_int {i : Int} : isV .ValueError (.int i) = Option.none := rfl
theorem isv_own_str {cc : String} {s : Str} : isV (.own cc) (.str s) = Option.none := rfl
theorem isv_ve_str {s : Str} : isV .ValueError (.str s) = Option.none := rfl
theorem isv_own_tup {cc : String} {vs : List V} : isV (.own cc) (.tup vs) = Option.none := rfl
theorem isv_ve_tup {vs : List V} : isV .ValueError (.tup vs) = Option.none := rfl
theorem isv_own_lst {cc : String} {vs : List V} : isV (.own cc) (.lst vs) = Option.none := rfl
theorem isv_ve_lst {vs : List V} : isV .ValueError (.lst vs) = Option.none := rfl
theorem isv_own_ref {cc : String} {a : Nat} : isV (.own cc) (.ref a) = Option.none := rfl
theorem isv_ve_ref {a : Nat} : isV .ValueError (.ref a) = Option.none := rfl
theorem isv_own_inst {cc : String} {c : Nat} {ns : List String} {vs : List V} : isV (.own cc) (.inst c ns vs) = Option.none := rfl
theorem isv_ve_inst {c : Nat} {ns : List String} {vs : List V} : isV .ValueError (.inst c ns vs) = Option.none := rfl
theorem isv_own_iref {cc : String} {c : Nat} {ns : List String} {a : Nat} : isV (.own cc) (.iref c ns a) = Option.none := rfl
theorem isv_ve_iref {c : Nat} {ns : List String} {a : Nat} : isV .ValueError (.iref c ns a) = Option.none := rfl
theorem isv_own_exc {cc : String} {c : String} : isV (.own cc) (.exc c) = Option.none := rfl
theorem isv_ve_exc {c : String} : isV .ValueError (.exc c) = Option.none := rfl
theorem isv_own_dct {cc : String}  : isV (.own cc) .dct = Option.none := rfl
theorem isv_ve_dct  : isV .ValueError .dct = Option.none := rfl
@[local simp] theorem fz_zero {H B : AH} {v : V} : frz H B 0 v = Option.none := rfl
@[local simp] theorem fz_none {H B : AH} {n : Nat}  : frz H B (n + 1) .none = some .none := rfl
@[local simp] theorem fz_bool {H B : AH} {n : Nat} {b : Bool} : frz H B (n + 1) (.bool b) = some (.bool b) := rfl
@[local simp] theorem fz_int {H B : AH} {n : Nat} {i : Int} : frz H B (n + 1) (.int i) = some (.int i) := rfl
@[local simp] theorem fz_str {H B : AH} {n : Nat} {s : Str} : frz H B (n + 1) (.str s) = some (.str s) := rfl
@[local simp] theorem fz_tup {H B : AH} {n : Nat} {vs : List V} : frz H B (n + 1) (.tup vs) = (frzs H B n vs).map .tup := rfl
@[local simp] theorem fz_lst {H B : AH} {n : Nat} {vs : List V} : frz H B (n + 1) (.lst vs) = (frzs H B n vs).map .lst := rfl
@[local simp] theorem fz_inst {H B : AH} {n : Nat} {c : Nat} {ns : List String} {vs : List V} : frz H B (n + 1) (.inst c ns vs) = (frzs H B n vs).map (.inst c ns) := rfl
@[local simp] theorem fz_ref {H B : AH} {n : Nat} {a : Nat} : frz H B (n + 1) (.ref a) = (match B a with
      | some _ => some (.ref a)
      | Option.none => (match H a with
        | some (.list vs) => (frzs H B n vs).map .lst
        | _ => Option.none)) := rfl
@[local simp] theorem fz_iref {H B : AH} {n : Nat} {c : Nat} {ns : List String} {a : Nat} : frz H B (n + 1) (.iref c ns a) = (match B a with
      | some _ => some (.iref c ns a)
      | Option.none => (match H a with
        | some (.inst _ ns' vs) => if ns' = ns then (frzs H B n vs).map (.inst c ns) else Option.none
        | _ => Option.none)) := rfl
@[local simp] theorem fzs_nil {H B : AH} {n : Nat} : frzs H B n [] = some [] := rfl
@[local simp] theorem fzs_cons {H B : AH} {n : Nat} {v : V} {vs : List V} : frzs H B n (v :: vs) = (match frz H B n v, frzs H B n vs with
    | some x, some xs => some (x :: xs)
    | _, _ => Option.none) := rfl
@[local simp] theorem sa_nil {ρ : List (Option V)} : setAll [] [] ρ = some ρ := rfl
theorem sa_cons {i : Nat} {is : List Nat} {v : V} {vs : List V} {ρ : List (Option V)} : setAll (i :: is) (v :: vs) ρ = (if i < ρ.length then setAll is vs (ρ.set i (some v)) else Option.none) := by
  show (match putV i v ρ with
    | some ρ' => setAll is vs ρ'
    | Option.none => Option.none) = _
  unfold putV
  by_cases h : i < ρ.length
  · rw [if_pos h, if_pos h]
  · rw [if_neg h, if_neg h]
theorem putV_inv {i : Nat} {v : V} {ρ : List (Option V)} {P : List (Option V) → Prop} (h : match putV i v ρ with
    | some ρ' => P ρ'
    | Option.none => False) : i < ρ.length ∧ P (ρ.set i (some v)) := by
  unfold putV at h
  by_cases hi : i < ρ.length
  · rw [if_pos hi] at h; exact ⟨hi, h⟩
  · rw [if_neg hi] at h; exact False.elim h
/-- what a call asks of its body's end -/
def PK (H : AH) (Q : V → Prop) (fl : Fl) (st : St) : Prop := match fl with
  | .ret v => (match frz st.H H 8 v with
    | some v' => Q v'
    | Option.none => False)
  | .next => Q .none
  | _ => False
@[local simp] theorem pk_ret {H : AH} {Q : V → Prop} {v : V} {st : St} : PK H Q (.ret v) st = (match frz st.H H 8 v with
    | some v' => Q v'
    | Option.none => False) := rfl
@[local simp] theorem pk_next {H : AH} {Q : V → Prop} {st : St} : PK H Q .next st = Q .none := rfl
@[local simp] theorem sa_step {i : Nat} {is : List Nat} {v : V} {vs : List V} {ρ : List (Option V)} : setAll (i :: is) (v :: vs) ρ = (match putV i v ρ with
    | some ρ' => setAll is vs ρ'
    | Option.none => Option.none) := rfl
@[local simp] theorem lv_0 {C : Cx} {H B : AH} {Q : V → Prop} {X : String → Prop} {v : V} {ρ : List (Option V)} : WE C (.var 0) ⟨some v :: ρ, H, B⟩ Q X = Q v := rfl
@[local simp] theorem lp_0 {y : Option V} {v : V} {ρ : List (Option V)} : putV 0 v (y :: ρ) = some (some v :: ρ) := rfl
@[local simp] theorem lv_1 {C : Cx} {H B : AH} {Q : V → Prop} {X : String → Prop} {x0 : Option V} {v : V} {ρ : List (Option V)} : WE C (.var 1) ⟨x0 :: some v :: ρ, H, B⟩ Q X = Q v := rfl
@[local simp] theorem lp_1 {x0 : Option V} {y : Option V} {v : V} {ρ : List (Option V)} : putV 1 v (x0 :: y :: ρ) = some (x0 :: some v :: ρ) := rfl
@[local simp] theorem lv_2 {C : Cx} {H B : AH} {Q : V → Prop} {X : String → Prop} {x0 x1 : Option V} {v : V} {ρ : List (Option V)} : WE C (.var 2) ⟨x0 :: x1 :: some v :: ρ, H, B⟩ Q X = Q v := rfl
@[local simp] theorem lp_2 {x0 x1 : Option V} {y : Option V} {v : V} {ρ : List (Option V)} : putV 2 v (x0 :: x1 :: y :: ρ) = some (x0 :: x1 :: some v :: ρ) := rfl
@[local simp] theorem lv_3 {C : Cx} {H B : AH} {Q : V → Prop} {X : String → Prop} {x0 x1 x2 : Option V} {v : V} {ρ : List (Option V)} : WE C (.var 3) ⟨x0 :: x1 :: x2 :: some v :: ρ, H, B⟩ Q X = Q v := rfl
@[local simp] theorem lp_3 {x0 x1 x2 : Option V} {y : Option V} {v : V} {ρ : List (Option V)} : putV 3 v (x0 :: x1 :: x2 :: y :: ρ) = some (x0 :: x1 :: x2 :: some v :: ρ) := rfl
@[local simp] theorem lv_4 {C : Cx} {H B : AH} {Q : V → Prop} {X : String → Prop} {x0 x1 x2 x3 : Option V} {v : V} {ρ : List (Option V)} : WE C (.var 4) ⟨x0 :: x1 :: x2 :: x3 :: some v :: ρ, H, B⟩ Q X = Q v := rfl
@[local simp] theorem lp_4 {x0 x1 x2 x3 : Option V} {y : Option V} {v : V} {ρ : List (Option V)} : putV 4 v (x0 :: x1 :: x2 :: x3 :: y :: ρ) = some (x0 :: x1 :: x2 :: x3 :: some v :: ρ) := rfl
@[local simp] theorem lv_5 {C : Cx} {H B : AH} {Q : V → Prop} {X : String → Prop} {x0 x1 x2 x3 x4 : Option V} {v : V} {ρ : List (Option V)} : WE C (.var 5) ⟨x0 :: x1 :: x2 :: x3 :: x4 :: some v :: ρ, H, B⟩ Q X = Q v := rfl
@[local simp] theorem lp_5 {x0 x1 x2 x3 x4 : Option V} {y : Option V} {v : V} {ρ : List (Option V)} : putV 5 v (x0 :: x1 :: x2 :: x3 :: x4 :: y :: ρ) = some (x0 :: x1 :: x2 :: x3 :: x4 :: some v :: ρ) := rfl
@[local simp] theorem lv_6 {C : Cx} {H B : AH} {Q : V → Prop} {X : String → Prop} {x0 x1 x2 x3 x4 x5 : Option V} {v : V} {ρ : List (Option V)} : WE C (.var 6) ⟨x0 :: x1 :: x2 :: x3 :: x4 :: x5 :: some v :: ρ, H, B⟩ Q X = Q v := rfl
@[local simp] theorem lp_6 {x0 x1 x2 x3 x4 x5 : Option V} {y : Option V} {v : V} {ρ : List (Option V)} : putV 6 v (x0 :: x1 :: x2 :: x3 :: x4 :: x5 :: y :: ρ) = some (x0 :: x1 :: x2 :: x3 :: x4 :: x5 :: some v :: ρ) := rfl
@[local simp] theorem lv_7 {C : Cx} {H B : AH} {Q : V → Prop} {X : String → Prop} {x0 x1 x2 x3 x4 x5 x6 : Option V} {v : V} {ρ : List (Option V)} : WE C (.var 7) ⟨x0 :: x1 :: x2 :: x3 :: x4 :: x5 :: x6 :: some v :: ρ, H, B⟩ Q X = Q v := rfl
@[local simp] theorem lp_7 {x0 x1 x2 x3 x4 x5 x6 : Option V} {y : Option V} {v : V} {ρ : List (Option V)} : putV 7 v (x0 :: x1 :: x2 :: x3 :: x4 :: x5 :: x6 :: y :: ρ) = some (x0 :: x1 :: x2 :: x3 :: x4 :: x5 :: x6 :: some v :: ρ) := rfl
@[local simp] theorem lv_8 {C : Cx} {H B : AH} {Q : V → Prop} {X : String → Prop} {x0 x1 x2 x3 x4 x5 x6 x7 : Option V} {v : V} {ρ : List (Option V)} : WE C (.var 8) ⟨x0 :: x1 :: x2 :: x3 :: x4 :: x5 :: x6 :: x7 :: some v :: ρ, H, B⟩ Q X = Q v := rfl
@[local simp] theorem lp_8 {x0 x1 x2 x3 x4 x5 x6 x7 : Option V} {y : Option V} {v : V} {ρ : List (Option V)} : putV 8 v (x0 :: x1 :: x2 :: x3 :: x4 :: x5 :: x6 :: x7 :: y :: ρ) = some (x0 :: x1 :: x2 :: x3 :: x4 :: x5 :: x6 :: x7 :: some v :: ρ) := rfl
@[local simp] theorem lv_9 {C : Cx} {H B : AH} {Q : V → Prop} {X : String → Prop} {x0 x1 x2 x3 x4 x5 x6 x7 x8 : Option V} {v : V} {ρ : List (Option V)} : WE C (.var 9) ⟨x0 :: x1 :: x2 :: x3 :: x4 :: x5 :: x6 :: x7 :: x8 :: some v :: ρ, H, B⟩ Q X = Q v := rfl
@[local simp] theorem lp_9 {x0 x1 x2 x3 x4 x5 x6 x7 x8 : Option V} {y : Option V} {v : V} {ρ : List (Option V)} : putV 9 v (x0 :: x1 :: x2 :: x3 :: x4 :: x5 :: x6 :: x7 :: x8 :: y :: ρ) = some (x0 :: x1 :: x2 :: x3 :: x4 :: x5 :: x6 :: x7 :: x8 :: some v :: ρ) := rfl
@[local simp] theorem lv_10 {C : Cx} {H B : AH} {Q : V → Prop} {X : String → Prop} {x0 x1 x2 x3 x4 x5 x6 x7 x8 x9 : Option V} {v : V} {ρ : List (Option V)} : WE C (.var 10) ⟨x0 :: x1 :: x2 :: x3 :: x4 :: x5 :: x6 :: x7 :: x8 :: x9 :: some v :: ρ, H, B⟩ Q X = Q v := rfl
@[local simp] theorem lp_10 {x0 x1 x2 x3 x4 x5 x6 x7 x8 x9 : Option V} {y : Option V} {v : V} {ρ : List (Option V)} : putV 10 v (x0 :: x1 :: x2 :: x3 :: x4 :: x5 :: x6 :: x7 :: x8 :: x9 :: y :: ρ) = some (x0 :: x1 :: x2 :: x3 :: x4 :: x5 :: x6 :: x7 :: x8 :: x9 :: some v :: ρ) := rfl
@[local simp] theorem lv_11 {C : Cx} {H B : AH} {Q : V → Prop} {X : String → Prop} {x0 x1 x2 x3 x4 x5 x6 x7 x8 x9 x10 : Option V} {v : V} {ρ : List (Option V)} : WE C (.var 11) ⟨x0 :: x1 :: x2 :: x3 :: x4 :: x5 :: x6 :: x7 :: x8 :: x9 :: x10 :: some v :: ρ, H, B⟩ Q X = Q v := rfl
@[local simp] theorem lp_11 {x0 x1 x2 x3 x4 x5 x6 x7 x8 x9 x10 : Option V} {y : Option V} {v : V} {ρ : List (Option V)} : putV 11 v (x0 :: x1 :: x2 :: x3 :: x4 :: x5 :: x6 :: x7 :: x8 :: x9 :: x10 :: y :: ρ) = some (x0 :: x1 :: x2 :: x3 :: x4 :: x5 :: x6 :: x7 :: x8 :: x9 :: x10 :: some v :: ρ) := rfl
@[local simp] theorem lv_12 {C : Cx} {H B : AH} {Q : V → Prop} {X : String → Prop} {x0 x1 x2 x3 x4 x5 x6 x7 x8 x9 x10 x11 : Option V} {v : V} {ρ : List (Option V)} : WE C (.var 12) ⟨x0 :: x1 :: x2 :: x3 :: x4 :: x5 :: x6 :: x7 :: x8 :: x9 :: x10 :: x11 :: some v :: ρ, H, B⟩ Q X = Q v := rfl
@[local simp] theorem lp_12 {x0 x1 x2 x3 x4 x5 x6 x7 x8 x9 x10 x11 : Option V} {y : Option V} {v : V} {ρ : List (Option V)} : putV 12 v (x0 :: x1 :: x2 :: x3 :: x4 :: x5 :: x6 :: x7 :: x8 :: x9 :: x10 :: x11 :: y :: ρ) = some (x0 :: x1 :: x2 :: x3 :: x4 :: x5 :: x6 :: x7 :: x8 :: x9 :: x10 :: x11 :: some v :: ρ) := rfl
@[local simp] theorem lv_13 {C : Cx} {H B : AH} {Q : V → Prop} {X : String → Prop} {x0 x1 x2 x3 x4 x5 x6 x7 x8 x9 x10 x11 x12 : Option V} {v : V} {ρ : List (Option V)} : WE C (.var 13) ⟨x0 :: x1 :: x2 :: x3 :: x4 :: x5 :: x6 :: x7 :: x8 :: x9 :: x10 :: x11 :: x12 :: some v :: ρ, H, B⟩ Q X = Q v := rfl
@[local simp] theorem lp_13 {x0 x1 x2 x3 x4 x5 x6 x7 x8 x9 x10 x11 x12 : Option V} {y : Option V} {v : V} {ρ : List (Option V)} : putV 13 v (x0 :: x1 :: x2 :: x3 :: x4 :: x5 :: x6 :: x7 :: x8 :: x9 :: x10 :: x11 :: x12 :: y :: ρ) = some (x0 :: x1 :: x2 :: x3 :: x4 :: x5 :: x6 :: x7 :: x8 :: x9 :: x10 :: x11 :: x12 :: some v :: ρ) := rfl
@[local simp] theorem lb_var {i : Nat} {v : V} {ρ : List (Option V)} : bindT (.var i) v ρ = putV i v ρ := rfl
@[local simp] theorem ls_0 {H : AH} {Q : V → Prop} {x y : V} : subV H (.tup [x, y]) (.int 0) Q = Q x := rfl
@[local simp] theorem ls_1 {H : AH} {Q : V → Prop} {x y : V} : subV H (.tup [x, y]) (.int 1) Q = Q y := rfl
@[local simp] theorem sa_l {v : V} {vs : List V} {ρ : List (Option V)} : setAll [] (v :: vs) ρ = Option.none := rfl
@[local simp] theorem sa_r {i : Nat} {is : List Nat} {ρ : List (Option V)} : setAll (i :: is) [] ρ = Option.none := rfl
theorem bd_var {i : Nat} {v : V} {ρ : List (Option V)} : bindT (.var i) v ρ = (if i < ρ.length then some (ρ.set i (some v)) else Option.none) := rfl
@[local simp] theorem bd_tup {is : List Nat} {vs : List V} {ρ : List (Option V)} : bindT (.tup is) (.tup vs) ρ = setAll is vs ρ := rfl
@[local simp] theorem bd_none {is : List Nat}  {ρ : List (Option V)} : bindT (.tup is) .none ρ = Option.none := rfl
@[local simp] theorem bd_bool {is : List Nat} {b : Bool} {ρ : List (Option V)} : bindT (.tup is) (.bool b) ρ = Option.none := rfl
@[local simp] theorem bd_int {is : List Nat} {i : Int} {ρ : List (Option V)} : bindT (.tup is) (.int i) ρ = Option.none := rfl
@[local simp] theorem bd_str {is : List Nat} {s : Str} {ρ : List (Option V)} : bindT (.tup is) (.str s) ρ = Option.none := rfl
@[local simp] theorem bd_lst {is : List Nat} {vs : List V} {ρ : List (Option V)} : bindT (.tup is) (.lst vs) ρ = Option.none := rfl
@[local simp] theorem bd_ref {is : List Nat} {a : Nat} {ρ : List (Option V)} : bindT (.tup is) (.ref a) ρ = Option.none := rfl
@[local simp] theorem bd_inst {is : List Nat} {c : Nat} {ns : List String} {vs : List V} {ρ : List (Option V)} : bindT (.tup is) (.inst c ns vs) ρ = Option.none := rfl
@[local simp] theorem bd_iref {is : List Nat} {c : Nat} {ns : List String} {a : Nat} {ρ : List (Option V)} : bindT (.tup is) (.iref c ns a) ρ = Option.none := rfl
@[local simp] theorem bd_exc {is : List Nat} {c : String} {ρ : List (Option V)} : bindT (.tup is) (.exc c) ρ = Option.none := rfl
@[local simp] theorem bd_dct {is : List Nat}  {ρ : List (Option V)} : bindT (.tup is) .dct ρ = Option.none := rfl
@[local simp] theorem bn_none {n d : Nat} : bnd n d .none = some d := rfl
@[local simp] theorem bn_int {n d : Nat} {i : Int} : bnd n d (.int i) = some (clip n i) := rfl
@[local simp] theorem bn_bool {n d : Nat} {b : Bool} : bnd n d (.bool b) = Option.none := rfl
@[local simp] theorem bn_str {n d : Nat} {s : Str} : bnd n d (.str s) = Option.none := rfl
@[local simp] theorem bn_tup {n d : Nat} {vs : List V} : bnd n d (.tup vs) = Option.none := rfl
@[local simp] theorem bn_lst {n d : Nat} {vs : List V} : bnd n d (.lst vs) = Option.none := rfl
@[local simp] theorem bn_ref {n d : Nat} {a : Nat} : bnd n d (.ref a) = Option.none := rfl
@[local simp] theorem bn_inst {n d : Nat} {c : Nat} {ns : List String} {vs : List V} : bnd n d (.inst c ns vs) = Option.none := rfl
@[local simp] theorem bn_iref {n d : Nat} {c : Nat} {ns : List String} {a : Nat} : bnd n d (.iref c ns a) = Option.none := rfl
@[local simp] theorem bn_exc {n d : Nat} {c : String} : bnd n d (.exc c) = Option.none := rfl
@[local simp] theorem bn_dct {n d : Nat}  : bnd n d .dct = Option.none := rfl
theorem io_nil  : intsOf [] = some [] := rfl
theorem so_nil  : strsOf [] = some [] := rfl
theorem io_none  {r : List V} : intsOf (.none :: r) = Option.none := rfl
theorem so_none  {r : List V} : strsOf (.none :: r) = Option.none := rfl
theorem io_bool {b : Bool} {r : List V} : intsOf ((.bool b) :: r) = Option.none := rfl
theorem so_bool {b : Bool} {r : List V} : strsOf ((.bool b) :: r) = Option.none := rfl
theorem io_int {i : Int} {r : List V} : intsOf ((.int i) :: r) = (intsOf r).map (i :: ·) := rfl
theorem so_int {i : Int} {r : List V} : strsOf ((.int i) :: r) = Option.none := rfl
theorem io_str {s : Str} {r : List V} : intsOf ((.str s) :: r) = Option.none := rfl
theorem so_str {s : Str} {r : List V} : strsOf ((.str s) :: r) = (strsOf r).map (s :: ·) := rfl
theorem io_tup {ws : List V} {r : List V} : intsOf ((.tup ws) :: r) = Option.none := rfl
theorem so_tup {ws : List V} {r : List V} : strsOf ((.tup ws) :: r) = Option.none := rfl
theorem io_lst {ws : List V} {r : List V} : intsOf ((.lst ws) :: r) = Option.none := rfl
theorem so_lst {ws : List V} {r : List V} : strsOf ((.lst ws) :: r) = Option.none := rfl
theorem io_ref {a : Nat} {r : List V} : intsOf ((.ref a) :: r) = Option.none := rfl
theorem so_ref {a : Nat} {r : List V} : strsOf ((.ref a) :: r) = Option.none := rfl
theorem io_inst {c : Nat} {ns : List String} {ws : List V} {r : List V} : intsOf ((.inst c ns ws) :: r) = Option.none := rfl
theorem so_inst {c : Nat} {ns : List String} {ws : List V} {r : List V} : strsOf ((.inst c ns ws) :: r) = Option.none := rfl
theorem io_iref {c : Nat} {ns : List String} {a : Nat} {r : List V} : intsOf ((.iref c ns a) :: r) = Option.none := rfl
theorem so_iref {c : Nat} {ns : List String} {a : Nat} {r : List V} : strsOf ((.iref c ns a) :: r) = Option.none := rfl
theorem io_exc {c : String} {r : List V} : intsOf ((.exc c) :: r) = Option.none := rfl
theorem so_exc {c : String} {r : List V} : strsOf ((.exc c) :: r) = Option.none := rfl
theorem io_dct  {r : List V} : intsOf (.dct :: r) = Option.none := rfl
theorem so_dct  {r : List V} : strsOf (.dct :: r) = Option.none := rfl
theorem la_nil  : lenAll [] = 0 := rfl
theorem la_cons {s : Str} {r : List Str} : lenAll (s :: r) = s.length + lenAll r := rfl
theorem cl_nil {f : V → (Option V → Prop) → Prop} {Q : List V → Prop} : compL f [] Q = Q [] := rfl
theorem cl_cons {f : V → (Option V → Prop) → Prop} {Q : List V → Prop} {x : V} {xs : List V} : compL f (x :: xs) Q = f x fun r => compL f xs fun ys => Q (match r with
    | some y => y :: ys
    | Option.none => ys) := rfl
@[local simp] theorem bv_add {H : AH} {Q : V → Prop} {i j : Int} : binV H .add (.int i) (.int j) Q = Q (.int (i + j)) := rfl
@[local simp] theorem bv_adds {H : AH} {Q : V → Prop} {s t : Str} : binV H .add (.str s) (.str t) Q = (s.length + t.length ≤ sizeLine ∧ Q (.str (s ++ t))) := rfl
@[local simp] theorem bv_addl {H : AH} {Q : V → Prop} {x y : List V} : binV H .add (.lst x) (.lst y) Q = (x.length + y.length ≤ sizeLine ∧ Q (.lst (x ++ y))) := rfl
@[local simp] theorem bv_sub {H : AH} {Q : V → Prop} {i j : Int} : binV H .sub (.int i) (.int j) Q = Q (.int (i - j)) := rfl
@[local simp] theorem bv_mul {H : AH} {Q : V → Prop} {i j : Int} : binV H .mul (.int i) (.int j) Q = ((i.natAbs < 2 ^ 62 ∨ j.natAbs < 2 ^ 62) ∧ Q (.int (i * j))) := rfl
@[local simp] theorem bv_fdiv {H : AH} {Q : V → Prop} {i j : Int} : binV H .fdiv (.int i) (.int j) Q = (j ≠ 0 ∧ Q (.int (i.fdiv j))) := rfl
@[local simp] theorem bv_mod {H : AH} {Q : V → Prop} {i j : Int} : binV H .mod (.int i) (.int j) Q = (j ≠ 0 ∧ Q (.int (i.fmod j))) := rfl
@[local simp] theorem bv_mull {H : AH} {Q : V → Prop} {vs : List V} {n : Int} : binV H .mul (.lst vs) (.int n) Q = (-(2 ^ 62) ≤ n ∧ n < 2 ^ 62 ∧ vs.length * n.toNat ≤ sizeLine ∧ Q (.lst (repL n.toNat vs))) := rfl
@[local simp] theorem bv_muls {H : AH} {Q : V → Prop} {s : Str} {n : Int} : binV H .mul (.str s) (.int n) Q = (0 ≤ n ∧ n < 2 ^ 30 ∧ s.length * n.toNat ≤ sizeLine ∧ Q (.str ⟨(repL n.toNat s.cps.toList).toArray⟩)) := rfl
@[local simp] theorem cv_eq {H : AH} {Q : Bool → Prop} {a b : V} : cmpV H .eq a b Q = eqV H a b Q := rfl
@[local simp] theorem cv_ne {H : AH} {Q : Bool → Prop} {a b : V} : cmpV H .ne a b Q = eqV H a b fun r => Q (!r) := rfl
@[local simp] theorem cv_lt {H : AH} {Q : Bool → Prop} {i j : Int} : cmpV H .lt (.int i) (.int j) Q = Q (decide (i < j)) := rfl
@[local simp] theorem cv_le {H : AH} {Q : Bool → Prop} {i j : Int} : cmpV H .le (.int i) (.int j) Q = Q (decide (i ≤ j)) := rfl
@[local simp] theorem cv_gt {H : AH} {Q : Bool → Prop} {i j : Int} : cmpV H .gt (.int i) (.int j) Q = Q (decide (i > j)) := rfl
@[local simp] theorem cv_ge {H : AH} {Q : Bool → Prop} {i j : Int} : cmpV H .ge (.int i) (.int j) Q = Q (decide (i ≥ j)) := rfl
@[local simp] theorem cv_isin {H : AH} {Q : Bool → Prop} {a b : V} : cmpV H .isin a b Q = inV H a b Q := rfl
@[local simp] theorem cv_notin {H : AH} {Q : Bool → Prop} {a b : V} : cmpV H .notin a b Q = inV H a b fun r => Q (!r) := rfl
theorem in_str {H : AH} {Q : Bool → Prop} {s t : Str} : inV H (.str t) (.str s) Q = Q (hasSub s t) := rfl
@[local simp] theorem sb_tup {H : AH} {Q : V → Prop} {vs : List V} {i : Int} : subV H (.tup vs) (.int i) Q = (match idx vs.length i with
    | some n => (match vs[n]? with
      | some v => Q v
      | Option.none => False)
    | Option.none => False) := rfl
@[local simp] theorem sb_lst {H : AH} {Q : V → Prop} {vs : List V} {i : Int} : subV H (.lst vs) (.int i) Q = (match idx vs.length i with
    | some n => (match vs[n]? with
      | some v => Q v
      | Option.none => False)
    | Option.none => False) := rfl
@[local simp] theorem sb_str {H : AH} {Q : V → Prop} {s : Str} {i : Int} : subV H (.str s) (.int i) Q = (match idx s.length i with
    | some n => (match s.cps.toList[n]? with
      | some v => Q (.str ⟨#[v]⟩)
      | Option.none => False)
    | Option.none => False) := rfl
@[local simp] theorem sb_ref {H : AH} {Q : V → Prop} {a : Nat} {k : V} : subV H (.ref a) k Q = (match H a with
    | some (.dict kvs) => keyP k fun ks => (match dlook ks kvs with
      | some v => Q v
      | Option.none => False)
    | some (.list vs) => (match k with
      | .int i => (match idx vs.length i with
        | some n => (match vs[n]? with
          | some v => Q v
          | Option.none => False)
        | Option.none => False)
      | _ => False)
    | _ => False) := rfl
@[local simp] theorem sl_str {H : AH} {Q : V → Prop} {s : Str} {lo hi : V} : sliceV H (.str s) lo hi Q = (match bnd s.length 0 lo, bnd s.length s.length hi with
    | some l, some h => Q (.str ⟨(cutL s.cps.toList l h).toArray⟩)
    | _, _ => False) := rfl
@[local simp] theorem sl_lst {H : AH} {Q : V → Prop} {vs : List V} {lo hi : V} : sliceV H (.lst vs) lo hi Q = (match bnd vs.length 0 lo, bnd vs.length vs.length hi with
    | some l, some h => Q (.lst (cutL vs l h))
    | _, _ => False) := rfl
theorem fl_nil {t : Tg} {W : St → (Fl → St → Prop) → Prop} {Q : Fl → St → Prop} {st : St} : forL t W Q [] st = Q .next st := rfl
theorem fl_cons {t : Tg} {W : St → (Fl → St → Prop) → Prop} {Q : Fl → St → Prop} {st : St} {x : V} {xs : List V} : forL t W Q (x :: xs) st = (match bindT t x st.ρ with
    | some ρ' => W { st with ρ := ρ' } (fun f st' => match f with
      | .next | .cont => forL t W Q xs st'
      | .brk => Q .next st'
      | .ret v => Q (.ret v) st')
    | Option.none => False) := rfl
theorem wn_zero {T : St → (Bool → Prop) → Prop} {W : St → (Fl → St → Prop) → Prop} {Q : Fl → St → Prop} {st : St} : whileN T W Q 0 st = False := rfl
theorem wn_succ {T : St → (Bool → Prop) → Prop} {W : St → (Fl → St → Prop) → Prop} {Q : Fl → St → Prop} {st : St} {n : Nat} : whileN T W Q (n + 1) st = (T st fun b => if b then W st (fun f st' => match f with
      | .next | .cont => whileN T W Q n st'
      | .brk => Q .next st'
      | .ret v => Q (.ret v) st') else Q .next st) := rfl
@[local simp] theorem stv {H B : AH} {ad : Nat} {i : Int} {P : Nat → List V → Nat → Prop} : setV H B (.ref ad) (.int i) P = (B ad = Option.none ∧ 0 ≤ i ∧ ∃ vs, H ad = some (.list vs) ∧ i < vs.length ∧ P ad vs i.toNat) := rfl
@[local simp] theorem i2r {i j : Int} {P : Int → Int → Prop} : int2 [.int i, .int j] P = P i j := rfl
@[local simp] theorem s1r {H : AH} {vs : List V} {P : Int → Prop} : sum1 H [.lst vs] P = intsP vs fun is => P is.sum := rfl
@[local simp] theorem rg1 {i : Int} {P : Int → Prop} : rng1 [.int i] P = (smallI i ∧ P i) := rfl
@[local simp] theorem rg2 {i j : Int} {P : Int → Int → Prop} : rng2 [.int i, .int j] P = (smallI i ∧ smallI j ∧ P i j) := rfl
@[local simp] theorem rg3 {i j k : Int} {P : Int → Int → Int → Prop} : rng3 [.int i, .int j, .int k] P = (smallI i ∧ smallI j ∧ P i j k) := rfl
@[local simp] theorem rp_lst {H : AH} {vs : List V} {P : List V → Prop} : rowP H (.lst vs) P = P vs := rfl
@[local simp] theorem rp_tup {H : AH} {vs : List V} {P : List V → Prop} : rowP H (.tup vs) P = P vs := rfl
@[local simp] theorem sqp_lst {H : AH} {vs : List V} {P : List V → Prop} : seqP H (.lst vs) P = P vs := rfl
@[local simp] theorem ip_int {i : Int} {P : Int → Prop} : intP (.int i) P = P i := rfl
@[local simp] theorem iov_str {s : Str} {Q : V → Prop} : intOfV (.str s) Q = (allDigits s.cps.toList = true ∧ 0 < s.length ∧ s.length ≤ 100 ∧ Q (.int (digitsVal s.cps.toList))) := rfl
@[local simp] theorem iov_bool {b : Bool} {Q : V → Prop} : intOfV (.bool b) Q = Q (.int (if b then 1 else 0)) := rfl
theorem dp_none  : PyData.depth .none = 0 := rfl
theorem dp_int {i : Int} : PyData.depth (.int i) = 0 := rfl
theorem dp_bool {b : Bool} : PyData.depth (.bool b) = 0 := rfl
theorem dp_str {s : Str} : PyData.depth (.str s) = 0 := rfl
theorem dp_list {xs : List PyData} : PyData.depth (.list xs) = PyData.depthAll xs + 1 := rfl
theorem dp_tup {xs : List PyData} : PyData.depth (.tuple xs) = PyData.depthAll xs + 1 := rfl
theorem da_nil  : PyData.depthAll [] = 0 := rfl
theorem da_cons {x : PyData} {xs : List PyData} : PyData.depthAll (x :: xs) = max (PyData.depth x) (PyData.depthAll xs) := rfl
theorem ev_int {i j : Int} : PyData.eqv (.int i) (.int j) = (i == j) := rfl
theorem ev_str {s t : Str} : PyData.eqv (.str s) (.str t) = (s == t) := rfl
theorem ev_bool {b c : Bool} : PyData.eqv (.bool b) (.bool c) = (b == c) := rfl
theorem ev_none  : PyData.eqv .none .none = true := rfl
theorem ev_list {x y : List PyData} : PyData.eqv (.list x) (.list y) = PyData.eqvAll x y := rfl
theorem ev_tup {x y : List PyData} : PyData.eqv (.tuple x) (.tuple y) = PyData.eqvAll x y := rfl
theorem ea_nil  : PyData.eqvAll [] [] = true := rfl
theorem ea_cons {a b : PyData} {x y : List PyData} : PyData.eqvAll (a :: x) (b :: y) = (PyData.eqv a b && PyData.eqvAll x y) := rfl

section
set_option linter.unusedSimpArgs false
set_option autoImplicit false
namespace Lib
open PySem Mine

noncomputable def F_is_whole : Fn := ⟨1, ["thing"], 1,
  (.cons (.ret (.and (.isinst (.var 0) .int) (.not (.isinst (.var 0) .bool))))
  .nil)⟩
noncomputable def F_is_text : Fn := ⟨1, ["thing", "sign"], 2,
  (.cons (.ite (.not (.isinst (.var 0) .str)) (.cons (.ret (.bool false))
    .nil) .nil)
  (.cons (.for (.var 1) (.seq (.var 0)) (.cons (.ite (.cmp (.var 1) (.one .notin (.glob "SIGNS"))) (.cons (.ret (.bool false))
      .nil) .nil)
    .nil))
  (.cons (.ret (.bool true))
  .nil)))⟩
noncomputable def F_is_symbol : Fn := ⟨2, ["thing", "below"], 2,
  (.cons (.ite (.call "is_whole" (.cons (.var 0) .nil)) (.cons (.ret (.cmp (.int 0) (.more .le (.var 0) (.one .lt (.var 1)))))
    .nil) .nil)
  (.cons (.ret (.and (.call "is_text" (.cons (.var 0) .nil)) (.cmp (.len (.var 0)) (.one .eq (.int 1)))))
  .nil))⟩
noncomputable def F_is_rule : Fn := ⟨2, ["rule", "number"], 2,
  (.cons (.ite (.or (.not (.isinst (.var 0) .tuple)) (.cmp (.len (.var 0)) (.one .ne (.int 2)))) (.cons (.ret (.bool false))
    .nil) .nil)
  (.cons (.ret (.and (.call "is_symbol" (.cons (.sub (.var 0) (.int 0)) (.cons (.var 1) .nil))) (.call "is_symbol" (.cons (.sub (.var 0) (.int 1)) (.cons (.var 1) .nil)))))
  .nil))⟩
noncomputable def F_need_book : Fn := ⟨1, ["book", "rules", "row", "number", "symbol"], 5,
  (.cons (.ite (.or (.not (.isinst (.var 0) .tuple)) (.cmp (.len (.var 0)) (.one .ne (.int 2)))) (.cons (.raise "NoBook" (.str (Str.ofString "no pair")))
    .nil) .nil)
  (.cons (.assign (.var 1) (.sub (.var 0) (.int 0)))
  (.cons (.assign (.var 2) (.sub (.var 0) (.int 1)))
  (.cons (.ite (.or (.not (.isinst (.var 1) .list)) (.not (.isinst (.var 2) .list))) (.cons (.raise "NoBook" (.str (Str.ofString "no two lists")))
    .nil) .nil)
  (.cons (.ite (.or (.cmp (.len (.var 1)) (.one .gt (.glob "MOST_RULES"))) (.cmp (.len (.var 2)) (.one .gt (.glob "MOST_ROW")))) (.cons (.raise "NoBook" (.str (Str.ofString "too long")))
    .nil) .nil)
  (.cons (.for (.var 3) (.range1 (.len (.var 1))) (.cons (.ite (.not (.call "is_rule" (.cons (.sub (.var 1) (.var 3)) (.cons (.var 3) .nil)))) (.cons (.raise "NoBook" (.str (Str.ofString "no rule")))
      .nil) .nil)
    .nil))
  (.cons (.for (.var 4) (.seq (.var 2)) (.cons (.ite (.not (.call "is_symbol" (.cons (.var 4) (.cons (.len (.var 1)) .nil)))) (.cons (.raise "NoBook" (.str (Str.ofString "no symbol")))
      .nil) .nil)
    .nil))
  (.cons (.ret (.var 0))
  .nil))))))))⟩
noncomputable def F_written_out : Fn := ⟨1, ["book", "waiting", "signs", "symbol"], 4,
  (.cons (.expr (.call "need_book" (.cons (.var 0) .nil)))
  (.cons (.own 1 (.thaw (.listOf (.rev (.sub (.var 0) (.int 1))))))
  (.cons (.own 2 (.list .nil))
  (.cons (.while (.cmp (.len (.var 1)) (.one .gt (.int 0))) (.cons (.pop (.var 3) (.var 1))
    (.cons (.ite (.isinst (.var 3) .str) (.cons (.append (.var 2) (.pure (.var 3)))
      .nil) (.cons (.append (.var 1) (.pure (.sub (.sub (.sub (.var 0) (.int 0)) (.var 3)) (.int 1))))
      (.cons (.append (.var 1) (.pure (.sub (.sub (.sub (.var 0) (.int 0)) (.var 3)) (.int 0))))
      .nil)))
    .nil)))
  (.cons (.ret (.join (.str (Str.ofString "")) (.var 2)))
  .nil)))))⟩
noncomputable def F_law_cell_at : Fn := ⟨2, ["_law_script", "_law_k"], 2,
  (.cons (.ite (.cmp (.var 1) (.one .lt (.len (.var 0)))) (.cons (.ret (.sub (.var 0) (.var 1)))
    .nil) .nil)
  (.cons (.ret (.int 0))
  .nil))⟩
noncomputable def F_law_sign_by : Fn := ⟨1, ["_law_cell", "_law_some"], 2,
  (.cons (.assign (.var 1) (.str (Str.ofString " !\"#$&'()*+,-./0123456789:;<=>?@ABCDEFGHIJKLMNOPQRSTUVWXYZ[\\]^_`")))
  (.cons (.assign (.var 1) (.bin .add (.var 1) (.str (Str.ofString "abcdefghijklmnopqrstuvwxyz{|}~\n"))))
  (.cons (.ret (.sub (.var 1) (.bin .mod (.var 0) (.int 95))))
  .nil)))⟩
noncomputable def F_law_symbol_by : Fn := ⟨3, ["_law_cell", "_law_many", "_law_first"], 3,
  (.cons (.ite (.or (.cmp (.var 1) (.one .eq (.int 0))) (.cmp (.bin .mod (.var 0) (.int 3)) (.one .eq (.int 0)))) (.cons (.ret (.call "_law_sign_by" (.cons (.bin .add (.var 2) (.bin .mul (.bin .mod (.bin .fdiv (.var 0) (.int 3)) (.int 3)) (.bin .add (.int 1) (.bin .mod (.bin .fdiv (.var 2) (.int 95)) (.int 94))))) .nil)))
    .nil) .nil)
  (.cons (.ite (.cmp (.bin .mod (.var 0) (.int 3)) (.one .eq (.int 1))) (.cons (.ret (.bin .sub (.var 1) (.int 1)))
    .nil) .nil)
  (.cons (.ret (.bin .mod (.bin .fdiv (.var 0) (.int 3)) (.var 1)))
  .nil)))⟩
noncomputable def F_law_book_by : Fn := ⟨2, ["_law_cells", "_law_first", "_law_rules", "_law_row", "_law_cell", "_law_one"], 6,
  (.cons (.own 2 (.list .nil))
  (.cons (.own 3 (.list .nil))
  (.cons (.for (.var 4) (.seq (.var 0)) (.cons (.ite (.cmp (.bin .mod (.var 4) (.int 3)) (.one .lt (.int 2))) (.cons (.assign (.var 5) (.call "_law_symbol_by" (.cons (.bin .fdiv (.var 4) (.int 3)) (.cons (.len (.var 2)) (.cons (.var 1) .nil)))))
      (.cons (.append (.var 2) (.pure (.tup (.cons (.var 5) (.cons (.call "_law_symbol_by" (.cons (.bin .fdiv (.var 4) (.int 47)) (.cons (.len (.var 2)) (.cons (.var 1) .nil)))) .nil)))))
      .nil)) (.cons (.append (.var 3) (.pure (.call "_law_symbol_by" (.cons (.bin .fdiv (.var 4) (.int 3)) (.cons (.len (.var 2)) (.cons (.var 1) .nil))))))
      .nil))
    .nil))
  (.cons (.ret (.tup (.cons (.var 2) (.cons (.var 3) .nil))))
  .nil))))⟩
noncomputable def SIGNS : Str := Str.ofString " !\"#$&'()*+,-./0123456789:;<=>?@ABCDEFGHIJKLMNOPQRSTUVWXYZ[\\]^_`abcdefghijklmnopqrstuvwxyz{|}~\n"
noncomputable def SG : List Nat := SIGNS.cps.toList

theorem call_of {tbl : Tbl} {gl : List (String × V)} {cls : Clss} {d : Nat} {f : String} {fn : Fn} {args : List V} {H : AH} {Q : V → Prop} {X : String → Prop} (h : tbl.lookup f = some fn) (h1 : args.length = fn.np) (h2 : fn.np ≤ fn.nv)
    (h3 : WB (cxN tbl gl cls d) fn.body ⟨args.map some ++ List.replicate (fn.nv - fn.np) none, H, H⟩ (PK H Q) (fun x _ => X x)) : (cxN tbl gl cls (d + 1)).call f args H Q X := by
  show runN tbl gl cls (d + 1) f args H (fun v H' => match frz H' H 8 v with
    | some v' => Q v'
    | none => False) X
  unfold runN
  rw [h]
  refine ⟨h1, h2, ?_⟩
  have e : (fun (fl : Fl) (st : St) => (match fl with
      | .ret v => (match frz st.H H 8 v with
        | some v' => Q v'
        | none => False)
      | .next => (match frz st.H H 8 .none with
        | some v' => Q v'
        | none => False)
      | _ => False)) = PK H Q := by
    funext fl st
    cases fl <;> rfl
  exact e ▸ h3

inductive Sy where
  | ch (c : Nat)
  | ru (k : Nat)
noncomputable def Sy.v : Sy → V
  | .ch c => .str ⟨#[c]⟩
  | .ru k => .int k
noncomputable def Sy.ok (n : Nat) : Sy → Prop
  | .ch c => c ∈ SG
  | .ru k => k < n
theorem has_sign : ∀ c ∈ SG, hasSub SIGNS ⟨#[c]⟩ = true := by decide +kernel

theorem wb_cons {C : Cx} {s : S} {b : Bl} {st : St} {Q : Fl → St → Prop} {X : String → St → Prop} (h : WS C s st (fun f st' => match f with
    | .next => WB C b st' Q X
    | f => Q f st') X) : WB C (.cons s b) st Q X := h
theorem wb_nil {C : Cx} {st : St} {Q : Fl → St → Prop} {X : String → St → Prop} (h : Q .next st) : WB C .nil st Q X := h

theorem idx_nat {n k : Nat} (h : k < n) : idx n (k : Int) = some k := by
  unfold idx
  rw [if_pos (by omega), if_pos (by omega)]
  simp
theorem idx_zero {n : Nat} (h : 0 < n) : idx n 0 = some 0 := idx_nat h
theorem idx_one {n : Nat} (h : 1 < n) : idx n 1 = some 1 := idx_nat h
theorem eqV_int {H : AH} {a b : Int} {Q : Bool → Prop} : eqV H (.int a) (.int b) Q = Q (decide (a = b)) := by
  have e : (a == b) = decide (a = b) := by rw [Bool.eq_iff_iff]; simp
  simp [eqV, rv_none, rv_bool, rv_int, rv_str, rv_tup, rv_lst, rv_ref, rv_inst, rv_iref, rv_exc, rv_dct, td_none, td_bool, td_int, td_str, td_tup, td_lst, td_ref, td_inst, td_iref, td_exc, td_dct, dp_none, dp_int, dp_bool, dp_str, dp_list, dp_tup, ev_int, ev_str, ev_bool, ev_none, ev_list, ev_tup, e]
theorem sizeLine_val : sizeLine = 16777216 := rfl
theorem cxN_glob {tbl : Tbl} {gl : List (String × V)} {cls : Clss} {d : Nat} {x : String} : (cxN tbl gl cls d).glob x = gl.lookup x := rfl

section
variable {tbl : Tbl} {gl : List (String × V)} {cls : Clss} {d : Nat} {H : AH} {Q : V → Prop} {X : String → Prop}

noncomputable abbrev Rl := Sy × Sy
noncomputable def pv (p : Rl) : V := .tup [p.1.v, p.2.v]
noncomputable def RulesOk (rs : List Rl) : Prop := ∀ (i : Nat) (p : Rl), rs[i]? = some p → p.1.ok i ∧ p.2.ok i
noncomputable def RowOk (n : Nat) (row : List Sy) : Prop := ∀ s ∈ row, s.ok n
noncomputable def bookV (rs : List Rl) (row : List Sy) : V := .tup [.lst (rs.map pv), .lst (row.map Sy.v)]

theorem upL_nil {a b : Int} (h : b ≤ a) : upL a b = [] := by
  unfold upL
  have : (b - a).toNat = 0 := by omega
  simp [this]
theorem upL_cons {a b : Int} (h : a < b) : upL a b = .int a :: upL (a + 1) b := by
  unfold upL
  have : (b - a).toNat = (b - (a + 1)).toNat + 1 := by omega
  rw [this, List.range_succ_eq_map]
  simp only [List.map_cons, List.map_map, List.cons.injEq]
  refine ⟨by simp, List.map_congr_left fun k _ => ?_⟩
  simp only [Function.comp]
  congr 1
  omega

end

end Lib
end

section
set_option autoImplicit false
set_option linter.unusedSimpArgs false
set_option linter.unusedVariables false
namespace Lib
open PySem Mine

/-! the texts of a book's rules -/
noncomputable def lst (l : List Nat) : V := .str ⟨l.toArray⟩

end Lib
end

section
set_option autoImplicit false
set_option linter.unusedSimpArgs false
set_option linter.unusedVariables false
namespace Lib
open PySem Mine

section
variable {tbl : Tbl} {gl : List (String × V)} {cls : Clss} {d : Nat} {H : AH} {Q : V → Prop} {X : String → Prop}

theorem fm (a : Int) {b : Int} (h : 0 < b) : 0 ≤ a.fmod b ∧ a.fmod b < b := ⟨Int.fmod_nonneg_of_pos a h, Int.fmod_lt_of_pos a h⟩

theorem sp_cell {ns : List Int} {k : Nat} (h : tbl.lookup "_law_cell_at" = some F_law_cell_at) (hq : ∀ i : Int, Q (.int i)) : (cxN tbl gl cls (d + 1)).call "_law_cell_at" [.lst (ns.map V.int), .int k] H Q X := by
  refine call_of h rfl (by decide) ?_
  unfold F_law_cell_at
  by_cases hk : k < ns.length
  · (refine wb_cons ?_; simp [eqV_int, sizeLine_val, idx_nat, idx_zero, idx_one, cxN_glob, hk])
    (refine wb_cons ?_; simp [eqV_int, sizeLine_val, idx_nat, idx_zero, idx_one, cxN_glob, hk, hq])
  · (refine wb_cons ?_; simp [eqV_int, sizeLine_val, idx_nat, idx_zero, idx_one, cxN_glob, hk])
    refine wb_nil ?_
    (refine wb_cons ?_; simp [eqV_int, sizeLine_val, idx_nat, idx_zero, idx_one, cxN_glob, hq])

end

end Lib
end

section
set_option autoImplicit false
set_option linter.unusedSimpArgs false
set_option linter.unusedVariables false
namespace Lib
open PySem Mine

section
variable {tbl : Tbl} {gl : List (String × V)} {cls : Clss} {d : Nat} {H : AH} {Q : V → Prop} {X : String → Prop}

theorem seq_ref {a : Nat} {vs : List V} (h : H a = some (.list vs)) : seqL H (.ref a) = some vs := by simp [h]
end

end Lib
end

section
set_option autoImplicit false
set_option linter.unusedSimpArgs false
set_option linter.unusedVariables false
namespace Lib
open PySem Mine

noncomputable def S1 (l : List Nat) : Str := ⟨l.toArray⟩
theorem strs_lst : ∀ L : List (List Nat), strsOf (L.map lst) = some (L.map S1)
  | [] => rfl
  | l :: L => by simp [so_nil, so_none, so_bool, so_int, so_str, so_tup, so_lst, so_ref, so_inst, so_iref, so_exc, so_dct, lst, strs_lst L, S1]
theorem lenAll_S1 : ∀ L : List (List Nat), lenAll (L.map S1) = L.flatten.length
  | [] => rfl
  | l :: L => by simp only [List.map_cons, la_nil, la_cons, lenAll_S1 L, S1, Str.length, List.flatten_cons, List.length_append]; simp
section
variable {tbl : Tbl} {gl : List (String × V)} {cls : Clss} {d : Nat} {H : AH} {Q : V → Prop} {X : String → Prop}

end

end Lib
end

section
set_option autoImplicit false
set_option linter.unusedSimpArgs false
set_option linter.unusedVariables false
namespace Lib
open PySem Mine

noncomputable def ones (l : List Nat) : List V := l.map fun c => V.str ⟨#[c]⟩
end Lib
end

section
set_option autoImplicit false
set_option linter.unusedSimpArgs false
set_option linter.unusedVariables false
namespace Lib
open PySem Mine

/-- plain data, not deeper than n, like itself -/
noncomputable def Dn (n : Nat) (v : V) : Prop := ∃ x, toD v = some x ∧ x.depth ≤ n ∧ PyData.eqv x x = true
theorem Dn.int {n : Nat} (i : Int) : Dn n (.int i) := ⟨.int i, by simp [td_none, td_bool, td_int, td_str, td_tup, td_lst, td_ref, td_inst, td_iref, td_exc, td_dct], by simp [dp_none, dp_int, dp_bool, dp_str, dp_list, dp_tup], by simp [ev_int, ev_str, ev_bool, ev_none, ev_list, ev_tup]⟩
theorem Dn.str {n : Nat} (i : Str) : Dn n (.str i) := ⟨.str i, by simp [td_none, td_bool, td_int, td_str, td_tup, td_lst, td_ref, td_inst, td_iref, td_exc, td_dct], by simp [dp_none, dp_int, dp_bool, dp_str, dp_list, dp_tup], by simp [ev_int, ev_str, ev_bool, ev_none, ev_list, ev_tup]⟩
theorem Dn.all {n : Nat} : ∀ {vs : List V}, (∀ v ∈ vs, Dn n v) → ∃ xs, toDs vs = some xs ∧ PyData.depthAll xs ≤ n ∧ PyData.eqvAll xs xs = true
  | [], _ => ⟨[], by simp [tds_nil, tds_cons], by simp [da_nil, da_cons], by simp [ea_nil, ea_cons]⟩
  | v :: vs, h => by
    obtain ⟨x, h1, h2, h3⟩ := h v (by simp)
    obtain ⟨xs, g1, g2, g3⟩ := Dn.all (vs := vs) fun w hw => h w (by simp [hw])
    refine ⟨x :: xs, by simp [tds_nil, tds_cons, h1, g1], ?_, by simp [ea_nil, ea_cons, h3, g3]⟩
    simp only [da_nil, da_cons]; omega
theorem Dn.lst {n : Nat} {vs : List V} (h : ∀ v ∈ vs, Dn n v) : Dn (n + 1) (.lst vs) := by
  obtain ⟨xs, g1, g2, g3⟩ := Dn.all h
  exact ⟨.list xs, by simp [td_none, td_bool, td_int, td_str, td_tup, td_lst, td_ref, td_inst, td_iref, td_exc, td_dct, g1], by simp only [dp_none, dp_int, dp_bool, dp_str, dp_list, dp_tup]; omega, by simp [ev_int, ev_str, ev_bool, ev_none, ev_list, ev_tup, g3]⟩
theorem eqV_str {H : AH} {s t : Str} {Q : Bool → Prop} : eqV H (.str s) (.str t) Q = Q (decide (s = t)) := by
  have e : (s == t) = decide (s = t) := by rw [Bool.eq_iff_iff]; simp
  simp [eqV, rv_none, rv_bool, rv_int, rv_str, rv_tup, rv_lst, rv_ref, rv_inst, rv_iref, rv_exc, rv_dct, td_none, td_bool, td_int, td_str, td_tup, td_lst, td_ref, td_inst, td_iref, td_exc, td_dct, dp_none, dp_int, dp_bool, dp_str, dp_list, dp_tup, ev_int, ev_str, ev_bool, ev_none, ev_list, ev_tup, e]
end Lib
end

section
set_option autoImplicit false
set_option linter.unusedSimpArgs false
set_option linter.unusedVariables false
namespace Lib
open PySem Mine
/-! what an expression gives: small steps, the rest shut -/
noncomputable def Ev (C : Cx) (st : St) (e : E) (w : V) : Prop := ∀ (Q : V → Prop) (X : String → Prop), Q w → WE C e st Q X
noncomputable def Evs (C : Cx) (st : St) (e : Es) (w : List V) : Prop := ∀ (Q : List V → Prop) (X : String → Prop), Q w → WEs C e st Q X
noncomputable def Ec (C : Cx) (st : St) (c : Ch) (u : V) (b : Bool) : Prop := ∀ (Q : Bool → Prop) (X : String → Prop), Q b → WCh C c st u Q X
noncomputable def Cm (H : AH) (op : Cop) (u v : V) (b : Bool) : Prop := ∀ Q : Bool → Prop, Q b → cmpV H op u v Q
noncomputable def Sb (H : AH) (u k w : V) : Prop := ∀ Q : V → Prop, Q w → subV H u k Q
noncomputable def Ca (C : Cx) (f : String) (vs : List V) (H : AH) (w : V) : Prop := ∀ (Q : V → Prop) (X : String → Prop), Q w → C.call f vs H Q X
noncomputable def Ei (C : Cx) (st : St) (it : It) (vs : List V) (ds : List Nat) : Prop := ∀ (Q : List V → List Nat → Prop) (X : String → Prop), Q vs ds → WI C it st Q X
section
variable {C : Cx} {st : St} {ρ : List (Option V)} {H B : AH}
theorem ev_none : Ev C st .none .none := fun _ _ h => h
theorem ev_bool {b : Bool} : Ev C st (.bool b) (.bool b) := fun _ _ h => h
theorem ev_int {i : Int} : Ev C st (.int i) (.int i) := fun _ _ h => h
theorem ev_str {s : Str} : Ev C st (.str s) (.str s) := fun _ _ h => h
theorem ev_var {i : Nat} {v : V} (h : ρ[i]? = some (some v)) : Ev C ⟨ρ, H, B⟩ (.var i) v := fun Q X q => by
  show (match ρ[i]? with
    | some (some v) => Q v
    | _ => False)
  rw [h]; exact q
theorem ev_glob {x : String} {v : V} (h : C.glob x = some v) : Ev C st (.glob x) v := fun Q X q => by
  show (match C.glob x with
    | some v => Q v
    | Option.none => False)
  rw [h]; exact q
theorem ev_bin {op : Bop} {a b : E} {u v w : V} (ha : Ev C st a u) (hb : Ev C st b v) (hw : ∀ Q : V → Prop, Q w → binV st.H op u v Q) : Ev C st (.bin op a b) w := fun Q X q => ha _ _ (hb _ _ (hw _ q))
theorem ev_add {a b : E} {i j : Int} (ha : Ev C st a (.int i)) (hb : Ev C st b (.int j)) : Ev C st (.bin .add a b) (.int (i + j)) := ev_bin ha hb fun _ q => q
theorem ev_fdiv {a b : E} {i j : Int} (ha : Ev C st a (.int i)) (hb : Ev C st b (.int j)) (h : j ≠ 0) : Ev C st (.bin .fdiv a b) (.int (i.fdiv j)) := ev_bin ha hb fun _ q => ⟨h, q⟩
theorem ev_mod {a b : E} {i j : Int} (ha : Ev C st a (.int i)) (hb : Ev C st b (.int j)) (h : j ≠ 0) : Ev C st (.bin .mod a b) (.int (i.fmod j)) := ev_bin ha hb fun _ q => ⟨h, q⟩
theorem ev_mul {a b : E} {i j : Int} (ha : Ev C st a (.int i)) (hb : Ev C st b (.int j)) (h : i.natAbs < 2 ^ 62 ∨ j.natAbs < 2 ^ 62) : Ev C st (.bin .mul a b) (.int (i * j)) := ev_bin ha hb fun _ q => ⟨h, q⟩
theorem ev_cat {a b : E} {s t : Str} (ha : Ev C st a (.str s)) (hb : Ev C st b (.str t)) (h : s.length + t.length ≤ sizeLine) : Ev C st (.bin .add a b) (.str (s ++ t)) := ev_bin ha hb fun _ q => ⟨h, q⟩
theorem ev_catl {a b : E} {x y : List V} (ha : Ev C st a (.lst x)) (hb : Ev C st b (.lst y)) (h : x.length + y.length ≤ sizeLine) : Ev C st (.bin .add a b) (.lst (x ++ y)) := ev_bin ha hb fun _ q => ⟨h, q⟩
theorem ev_neg {a : E} {i : Int} (ha : Ev C st a (.int i)) : Ev C st (.neg a) (.int (-i)) := fun Q X q => ha _ _ q
theorem ev_not {a : E} {b : Bool} (ha : Ev C st a (.bool b)) : Ev C st (.not a) (.bool !b) := fun Q X q => ha _ _ q
theorem ev_and {a b : E} {p q : Bool} (ha : Ev C st a (.bool p)) (hb : p = true → Ev C st b (.bool q)) : Ev C st (.and a b) (.bool (p && q)) := fun Q X h => ha _ _ (by cases p; exact h; exact hb rfl _ _ h)
theorem ev_or {a b : E} {p q : Bool} (ha : Ev C st a (.bool p)) (hb : p = false → Ev C st b (.bool q)) : Ev C st (.or a b) (.bool (p || q)) := fun Q X h => ha _ _ (by cases p; exact hb rfl _ _ h; exact h)
theorem evs_nil : Evs C st .nil [] := fun _ _ q => q
theorem evs_cons {e : E} {es : Es} {v : V} {vs : List V} (h : Ev C st e v) (hs : Evs C st es vs) : Evs C st (.cons e es) (v :: vs) := fun _ _ q => h _ _ (hs _ _ q)
theorem ev_list {es : Es} {vs : List V} (h : Evs C st es vs) (hn : Nat.ble vs.length 16777216 = true) : Ev C st (.list es) (.lst vs) := fun _ _ q => h _ _ ⟨Nat.le_of_ble_eq_true hn, q⟩
theorem ev_tup {es : Es} {vs : List V} (h : Evs C st es vs) (hn : Nat.ble vs.length 16777216 = true) : Ev C st (.tup es) (.tup vs) := fun _ _ q => h _ _ ⟨Nat.le_of_ble_eq_true hn, q⟩
theorem ev_cmp {a : E} {c : Ch} {u : V} {b : Bool} (ha : Ev C st a u) (hc : Ec C st c u b) : Ev C st (.cmp a c) (.bool b) := fun _ _ q => ha _ _ (hc _ _ q)
theorem ec_one {op : Cop} {e : E} {u v : V} {b : Bool} (he : Ev C st e v) (hc : Cm st.H op u v b) : Ec C st (.one op e) u b := fun _ _ q => he _ _ (hc _ q)
theorem ec_more {op : Cop} {e : E} {c : Ch} {u v : V} {p q : Bool} (he : Ev C st e v) (hc : Cm st.H op u v p) (h2 : p = true → Ec C st c v q) : Ec C st (.more op e c) u (p && q) := fun _ _ h => he _ _ (hc _ (by cases p; exact h; exact h2 rfl _ _ h))
theorem cm_lt {i j : Int} : Cm H .lt (.int i) (.int j) (decide (i < j)) := fun _ q => q
theorem cm_le {i j : Int} : Cm H .le (.int i) (.int j) (decide (i ≤ j)) := fun _ q => q
theorem cm_gt {i j : Int} : Cm H .gt (.int i) (.int j) (decide (i > j)) := fun _ q => q
theorem cm_ge {i j : Int} : Cm H .ge (.int i) (.int j) (decide (i ≥ j)) := fun _ q => q
theorem cm_eq {i j : Int} : Cm H .eq (.int i) (.int j) (decide (i = j)) := fun Q q => (show eqV H (.int i) (.int j) Q from by rw [eqV_int]; exact q)
theorem cm_ne {i j : Int} : Cm H .ne (.int i) (.int j) (!decide (i = j)) := fun Q q => (show eqV H (.int i) (.int j) (fun r => Q (!r)) from by rw [eqV_int]; exact q)
theorem ev_sub {a i : E} {u k w : V} (ha : Ev C st a u) (hi : Ev C st i k) (hs : Sb st.H u k w) : Ev C st (.sub a i) w := fun _ _ q => ha _ _ (hi _ _ (hs _ q))
theorem sb_lst {vs : List V} {n : Nat} {w : V} (h : vs[n]? = some w) : Sb H (.lst vs) (.int n) w := fun Q q => by
  show (match idx vs.length (n : Int) with
    | some n => (match vs[n]? with
      | some v => Q v
      | Option.none => False)
    | Option.none => False)
  rw [idx_nat (List.getElem?_eq_some_iff.mp h).1]
  show (match vs[n]? with
      | some v => Q v
      | Option.none => False)
  rw [h]; exact q
theorem sb_tup {vs : List V} {n : Nat} {w : V} (h : vs[n]? = some w) : Sb H (.tup vs) (.int n) w := fun Q q => sb_lst (H := H) h Q q
theorem sb_ref {a : Nat} {vs : List V} {n : Nat} {w : V} (ha : H a = some (.list vs)) (h : vs[n]? = some w) : Sb H (.ref a) (.int n) w := fun Q q => by
  show (match H a with
    | some (.dict kvs) => _
    | some (.list vs) => _
    | _ => False)
  rw [ha]
  exact sb_lst (H := H) h Q q
theorem ev_call {f : String} {es : Es} {vs : List V} {w : V} (he : Evs C st es vs) (hc : Ca C f vs st.H w) : Ev C st (.call f es) w := fun _ _ q => he _ _ (hc _ _ q)
theorem ev_isi {a : E} {t : Ty} {u : V} {b : Bool} (ha : Ev C st a u) (h : isT st.H t u = some b) : Ev C st (.isinst a t) (.bool b) := fun Q _ q => ha _ _ (by
  show (match isT st.H t u with
    | some b => Q (.bool b)
    | Option.none => False)
  rw [h]; exact q)
theorem ev_len {a : E} {u : V} {n : Nat} (ha : Ev C st a u) (h : sizeV st.H u = some n) : Ev C st (.len a) (.int n) := fun Q _ q => ha _ _ (by
  show (match sizeV st.H u with
    | some n => Q (.int n)
    | Option.none => False)
  rw [h]; exact q)
theorem ei_seq {e : E} {u : V} {vs : List V} (he : Ev C st e u) (h : itemsV st.H u = some vs) : Ei C st (.seq e) vs (depsV u) := fun Q _ q => he _ _ (by
  show (match itemsV st.H u with
    | some vs => Q vs (depsV u)
    | Option.none => False)
  rw [h]; exact q)
theorem ei_range1 {e : E} {i : Int} (he : Ev C st e (.int i)) (h : smallI i) : Ei C st (.range1 e) (upL 0 i) [] := fun Q _ q => he _ _ ⟨h, q⟩
theorem ev_join {s a : E} {u : V} {t : Str} {vs : List V} {ss : List Str} (hs : Ev C st s (.str t)) (ha : Ev C st a u) (h1 : seqL st.H u = some vs) (h2 : strsOf vs = some ss) (h3 : lenAll ss + t.length * ss.length ≤ sizeLine) : Ev C st (.join s a) (.str (Str.join t ss)) := fun Q _ q => hs _ _ (ha _ _ (by
  show (match (V.str t), (seqL st.H u).bind strsOf with
    | .str s, some ss => lenAll ss + s.length * ss.length ≤ sizeLine ∧ Q (.str (Str.join s ss))
    | _, _ => False)
  rw [h1]
  show (match (V.str t), strsOf vs with
    | .str s, some ss => lenAll ss + s.length * ss.length ≤ sizeLine ∧ Q (.str (Str.join s ss))
    | _, _ => False)
  rw [h2]; exact ⟨h3, q⟩))
theorem ev_comp {elt : E} {i : Nat} {it : It} {α : Type} {v g : α → V} {r : List α} {ds : List Nat} (hi : Ei C ⟨ρ, H, B⟩ it (r.map v) ds) (hl : r.length ≤ sizeLine) (hlt : i < ρ.length) (he : ∀ x ∈ r, Ev C ⟨ρ.set i (some (v x)), H, B⟩ elt (g x)) : Ev C ⟨ρ, H, B⟩ (.comp elt (.var i) it) (.lst (r.map g)) := fun Q X q => by
  refine hi _ _ ⟨by rw [List.length_map]; exact hl, ?_⟩
  have key : ∀ (r : List α) (K : List V → Prop), (∀ x ∈ r, Ev C ⟨ρ.set i (some (v x)), H, B⟩ elt (g x)) → K (r.map g) → compL (fun x k => match bindT (.var i) x ρ with
        | some ρ' => WE C elt ⟨ρ', H, B⟩ (fun y => k (some y)) (fun _ => False)
        | Option.none => False) (r.map v) K := by
    intro r
    induction r with
    | nil => intro K _ h; exact h
    | cons x r ih =>
      intro K h1 h2
      show (match bindT (.var i) (v x) ρ with
        | some ρ' => WE C elt ⟨ρ', H, B⟩ _ (fun _ => False)
        | Option.none => False)
      have : bindT (.var i) (v x) ρ = some (ρ.set i (some (v x))) := by show putV _ _ _ = _; unfold putV; rw [if_pos hlt]
      rw [this]
      exact h1 x (List.mem_cons_self ..) _ _ (ih _ (fun y hy => h1 y (List.mem_cons_of_mem _ hy)) h2)
  exact key r _ he q
/-! statements -/
noncomputable def Kn (C : Cx) (r : Bl) (Q : Fl → St → Prop) (X : String → St → Prop) : Fl → St → Prop := fun f st' => match f with
    | .next => WB C r st' Q X
    | f => Q f st'
noncomputable def Fo (C : Cx) (t : Tg) (b r : Bl) (Q : Fl → St → Prop) (X : String → St → Prop) (xs : List V) (st : St) : Prop := forL t (fun st' K => WB C b st' K X) (Kn C r Q X) xs st
noncomputable def Kf (C : Cx) (t : Tg) (b r : Bl) (Q : Fl → St → Prop) (X : String → St → Prop) (xs : List V) : Fl → St → Prop := fun f st' => match f with
      | .next | .cont => Fo C t b r Q X xs st'
      | .brk => Kn C r Q X .next st'
      | .ret v => Kn C r Q X (.ret v) st'
variable {Q : Fl → St → Prop} {X : String → St → Prop} {b r : Bl}
theorem kn_nil (h : WB C r st Q X) : WB C .nil st (Kn C r Q X) X := h
theorem kf_nil {t : Tg} {xs : List V} (h : Fo C t b r Q X xs st) : WB C .nil st (Kf C t b r Q X xs) X := h
theorem w_asg {i : Nat} {e : E} {w : V} (he : Ev C ⟨ρ, H, B⟩ e w) (hi : Nat.blt i ρ.length = true) (hb : WB C b ⟨ρ.set i (some w), H, B⟩ Q X) : WB C (.cons (.assign (.var i) e) b) ⟨ρ, H, B⟩ Q X := he _ _ (by
  show (match (match putV i w ρ with
    | some ρ' => _
    | none => False) with
    | p => p)
  unfold putV; rw [if_pos (Nat.blt_eq.mp hi)]; exact hb)
theorem w_own0 {i : Nat} (hi : Nat.blt i ρ.length = true) (hb : ∀ a, H a = none → B a = none → WB C b ⟨ρ.set i (some (.ref a)), H.upd a (.list []), B⟩ Q X) : WB C (.cons (.own i (.list .nil)) b) ⟨ρ, H, B⟩ Q X := by
  refine ⟨by decide, fun a h1 h2 => ?_⟩
  show (match (match putV i (.ref a) ρ with
    | some ρ' => _
    | none => False) with
    | p => p)
  unfold putV; rw [if_pos (Nat.blt_eq.mp hi)]; exact hb a h1 h2
theorem w_set {i a n : Nat} {k v : E} {vs : List V} {w : V} (hv : Ev C ⟨ρ, H, B⟩ v w) (hx : ρ[i]? = some (some (.ref a))) (hk : Ev C ⟨ρ, H, B⟩ k (.int n)) (ha : H a = some (.list vs)) (hB : B a = none) (hn : n < vs.length) (hb : WB C b ⟨ρ, H.upd a (.list (vs.set n w)), B⟩ Q X) : WB C (.cons (.setitem (.var i) k v) b) ⟨ρ, H, B⟩ Q X := by
  refine hv _ _ (ev_var (C := C) (H := H) (B := B) hx _ (fun x => X x ⟨ρ, H, B⟩) (hk _ _ ⟨hB, by omega, vs, ha, by omega, ?_⟩))
  exact hb
theorem w_if {t : E} {a a' : Bl} (p : Bool) (ht : Ev C st t (.bool p)) (h1 : p = true → WB C a st (Kn C r Q X) X) (h0 : p = false → WB C a' st (Kn C r Q X) X) : WB C (.cons (.ite t a a') r) st Q X := by
  refine ht _ _ ?_
  cases p
  · exact h0 rfl
  · exact h1 rfl
theorem w_ift {t : E} {a a' : Bl} (ht : Ev C st t (.bool true)) (h1 : WB C a st (Kn C r Q X) X) : WB C (.cons (.ite t a a') r) st Q X := ht _ _ h1
theorem w_iff {t : E} {a a' : Bl} (ht : Ev C st t (.bool false)) (h1 : WB C a' st (Kn C r Q X) X) : WB C (.cons (.ite t a a') r) st Q X := ht _ _ h1
theorem w_ret {e : E} {w : V} (he : Ev C st e w) (h : Q (.ret w) st) : WB C (.cons (.ret e) b) st Q X := he _ _ h
theorem w_for {t : Tg} {it : It} {xs : List V} {ds : List Nat} (hi : Ei C st it xs ds) (hq : quietB b = true ∨ ∀ a ∈ ds, st.B a ≠ Option.none) (h : Fo C t b r Q X xs st) : WB C (.cons (.for t it b) r) st Q X := hi _ _ ⟨hq, h⟩
theorem fo_nil {t : Tg} (h : WB C r st Q X) : Fo C t b r Q X [] st := h
theorem fo_cons {t : Tg} {x : V} {xs : List V} {ρ' : List (Option V)} (hb : bindT t x ρ = some ρ') (h : WB C b ⟨ρ', H, B⟩ (Kf C t b r Q X xs) X) : Fo C t b r Q X (x :: xs) ⟨ρ, H, B⟩ := by
  show (match bindT t x ρ with
    | some ρ' => WB C b ⟨ρ', H, B⟩ (Kf C t b r Q X xs) X
    | Option.none => False)
  rw [hb]; exact h
noncomputable def Wh (C : Cx) (t : E) (b r : Bl) (Q : Fl → St → Prop) (X : String → St → Prop) (n : Nat) (st : St) : Prop := whileN (fun st' K => WE C t st' (fun u => match truthV st'.H u with
      | some r => K r
      | Option.none => False) (fun x => X x st')) (fun st' K => WB C b st' K X) (Kn C r Q X) n st
noncomputable def Kw (C : Cx) (t : E) (b r : Bl) (Q : Fl → St → Prop) (X : String → St → Prop) (n : Nat) : Fl → St → Prop := fun f st' => match f with
      | .next | .cont => Wh C t b r Q X n st'
      | .brk => Kn C r Q X .next st'
      | .ret v => Kn C r Q X (.ret v) st'
theorem w_while {t : E} (n : Nat) (h : Wh C t b r Q X n st) : WB C (.cons (.while t b) r) st Q X := ⟨n, h⟩
theorem kw_nil {t : E} {n : Nat} (h : Wh C t b r Q X n st) : WB C .nil st (Kw C t b r Q X n) X := h
theorem wh_end {t : E} {n : Nat} (ht : Ev C st t (.bool false)) (h : WB C r st Q X) : Wh C t b r Q X (n + 1) st := ht _ _ h
theorem wh_step {t : E} {n : Nat} (ht : Ev C st t (.bool true)) (h : WB C b st (Kw C t b r Q X n) X) : Wh C t b r Q X (n + 1) st := ht _ _ h
end
section
variable {tbl : Tbl} {gl : List (String × V)} {cls : Clss} {d : Nat} {H H' B : AH} {Q : V → Prop} {ρ : List (Option V)}
theorem ca_of {f : String} {fn : Fn} {args : List V} {w : V} (h : tbl.lookup f = some fn) (h1 : args.length = fn.np) (h2 : fn.np ≤ fn.nv)
    (h3 : ∀ (Q : V → Prop) (X : String → Prop), Q w → WB (cxN tbl gl cls d) fn.body ⟨args.map some ++ List.replicate (fn.nv - fn.np) none, H, H⟩ (PK H Q) (fun x _ => X x)) : Ca (cxN tbl gl cls (d + 1)) f args H w := fun Q X q => call_of h h1 h2 (h3 Q X q)
theorem pk_of {v w : V} (h : frz H' H 8 v = some w) (q : Q w) : PK H Q (.ret v) ⟨ρ, H', B⟩ := by
  rw [pk_ret, h]; exact q
end
theorem upd_eq {H : AH} {a : Nat} {o : AO} : (H.upd a o) a = some o := if_pos rfl
theorem upd_ne {H : AH} {a b : Nat} {o : AO} (h : b ≠ a) : (H.upd a o) b = H b := if_neg h
theorem of_upd {H : AH} {a b : Nat} {o o' : AO} (h : (H.upd a o) b = none) : b ≠ a := fun e => by rw [e, upd_eq] at h; cases h
end Lib
end

section
set_option autoImplicit false
namespace L03
open PySem Mine

noncomputable def F_is_whole : Fn := ⟨1, ["thing"], 1,
  (.cons (.ret (.and (.isinst (.var 0) .int) (.not (.isinst (.var 0) .bool))))
  .nil)⟩
noncomputable def F_is_text : Fn := ⟨1, ["thing", "sign"], 2,
  (.cons (.ite (.not (.isinst (.var 0) .str)) (.cons (.ret (.bool false))
    .nil) .nil)
  (.cons (.for (.var 1) (.seq (.var 0)) (.cons (.ite (.cmp (.var 1) (.one .notin (.glob "SIGNS"))) (.cons (.ret (.bool false))
      .nil) .nil)
    .nil))
  (.cons (.ret (.bool true))
  .nil)))⟩
noncomputable def F_is_symbol : Fn := ⟨2, ["thing", "below"], 2,
  (.cons (.ite (.call "is_whole" (.cons (.var 0) .nil)) (.cons (.ret (.cmp (.int 0) (.more .le (.var 0) (.one .lt (.var 1)))))
    .nil) .nil)
  (.cons (.ret (.and (.call "is_text" (.cons (.var 0) .nil)) (.cmp (.len (.var 0)) (.one .eq (.int 1)))))
  .nil))⟩
noncomputable def F_is_rule : Fn := ⟨2, ["rule", "number"], 2,
  (.cons (.ite (.or (.not (.isinst (.var 0) .tuple)) (.cmp (.len (.var 0)) (.one .ne (.int 2)))) (.cons (.ret (.bool false))
    .nil) .nil)
  (.cons (.ret (.and (.call "is_symbol" (.cons (.sub (.var 0) (.int 0)) (.cons (.var 1) .nil))) (.call "is_symbol" (.cons (.sub (.var 0) (.int 1)) (.cons (.var 1) .nil)))))
  .nil))⟩
noncomputable def F_need_book : Fn := ⟨1, ["book", "rules", "row", "number", "symbol"], 5,
  (.cons (.ite (.or (.not (.isinst (.var 0) .tuple)) (.cmp (.len (.var 0)) (.one .ne (.int 2)))) (.cons (.rz "NoBook" (.str (Str.ofString "no pair")))
    .nil) .nil)
  (.cons (.assign (.var 1) (.sub (.var 0) (.int 0)))
  (.cons (.assign (.var 2) (.sub (.var 0) (.int 1)))
  (.cons (.ite (.or (.not (.isinst (.var 1) .list)) (.not (.isinst (.var 2) .list))) (.cons (.rz "NoBook" (.str (Str.ofString "no two lists")))
    .nil) .nil)
  (.cons (.ite (.or (.cmp (.len (.var 1)) (.one .gt (.glob "MOST_RULES"))) (.cmp (.len (.var 2)) (.one .gt (.glob "MOST_ROW")))) (.cons (.rz "NoBook" (.str (Str.ofString "too long")))
    .nil) .nil)
  (.cons (.for (.var 3) (.range1 (.len (.var 1))) (.cons (.ite (.not (.call "is_rule" (.cons (.sub (.var 1) (.var 3)) (.cons (.var 3) .nil)))) (.cons (.rz "NoBook" (.str (Str.ofString "no rule")))
      .nil) .nil)
    .nil))
  (.cons (.for (.var 4) (.seq (.var 2)) (.cons (.ite (.not (.call "is_symbol" (.cons (.var 4) (.cons (.len (.var 1)) .nil)))) (.cons (.rz "NoBook" (.str (Str.ofString "no symbol")))
      .nil) .nil)
    .nil))
  (.cons (.ret (.var 0))
  .nil))))))))⟩
noncomputable def F_lengths : Fn := ⟨1, ["book", "sizes", "rule"], 3,
  (.cons (.expr (.call "need_book" (.cons (.var 0) .nil)))
  (.cons (.raise "" .none)
  (.cons (.raise "" .none)
  (.cons (.raise "" .none)
  .nil))))⟩
noncomputable def F_length : Fn := ⟨1, ["book", "sizes"], 2,
  (.cons (.assign (.var 1) (.call "lengths" (.cons (.var 0) .nil)))
  (.cons (.raise "" .none)
  .nil))⟩
noncomputable def F_depth : Fn := ⟨1, ["book", "heights", "rule"], 3,
  (.cons (.expr (.call "need_book" (.cons (.var 0) .nil)))
  (.cons (.raise "" .none)
  (.cons (.raise "" .none)
  (.cons (.raise "" .none)
  .nil))))⟩
noncomputable def F_uses : Fn := ⟨1, ["book", "rules", "found", "symbol", "number"], 5,
  (.cons (.expr (.call "need_book" (.cons (.var 0) .nil)))
  (.cons (.raise "" .none)
  (.cons (.raise "" .none)
  (.cons (.raise "" .none)
  (.cons (.raise "" .none)
  (.cons (.raise "" .none)
  .nil))))))⟩
noncomputable def F_written_out : Fn := ⟨1, ["book", "waiting", "signs", "symbol"], 4,
  (.cons (.expr (.call "need_book" (.cons (.var 0) .nil)))
  (.cons (.raise "" .none)
  (.cons (.raise "" .none)
  (.cons (.raise "" .none)
  (.cons (.raise "" .none)
  .nil)))))⟩
noncomputable def F_sign_at : Fn := ⟨2, ["book", "place", "sizes", "at", "symbol", "opened", "rule", "size"], 8,
  (.cons (.assign (.var 2) (.call "lengths" (.cons (.var 0) .nil)))
  (.cons (.raise "" .none)
  (.cons (.raise "" .none)
  (.cons (.raise "" .none)
  (.cons (.raise "" .none)
  (.cons (.raise "" .none)
  (.cons (.raise "" .none)
  (.cons (.raise "" .none)
  .nil))))))))⟩
noncomputable def F_cut : Fn := ⟨3, ["book", "start", "end", "sizes", "total", "waiting", "behind", "symbol", "signs", "opened", "one", "stop", "rule"], 13,
  (.cons (.assign (.var 3) (.call "lengths" (.cons (.var 0) .nil)))
  (.cons (.raise "" .none)
  (.cons (.raise "" .none)
  (.cons (.raise "" .none)
  (.cons (.raise "" .none)
  (.cons (.raise "" .none)
  (.cons (.raise "" .none)
  (.cons (.raise "" .none)
  (.cons (.raise "" .none)
  (.cons (.raise "" .none)
  .nil))))))))))⟩
noncomputable def F_shown : Fn := ⟨1, ["book", "rows"], 2,
  (.cons (.expr (.call "need_book" (.cons (.var 0) .nil)))
  (.cons (.raise "" .none)
  (.cons (.raise "" .none)
  .nil)))⟩
noncomputable def F_whole : Fn := ⟨2, ["book", "word", "pieces", "rule", "found", "symbol"], 6,
  (.cons (.expr (.call "need_book" (.cons (.var 0) .nil)))
  (.cons (.raise "" .none)
  (.cons (.raise "" .none)
  (.cons (.raise "" .none)
  (.cons (.raise "" .none)
  (.cons (.raise "" .none)
  (.cons (.raise "" .none)
  .nil)))))))⟩
noncomputable def F_how_often : Fn := ⟨2, ["book", "word"], 2,
  (.cons (.ret (.only (.call "whole" (.cons (.var 0) (.cons (.var 1) .nil)))))
  .nil)⟩
noncomputable def F_first_place : Fn := ⟨2, ["book", "word"], 2,
  (.cons (.ret (.only (.call "whole" (.cons (.var 0) (.cons (.var 1) .nil)))))
  .nil)⟩
noncomputable def F_law_cell_at : Fn := ⟨2, ["_law_script", "_law_k"], 2,
  (.cons (.ite (.cmp (.var 1) (.one .lt (.len (.var 0)))) (.cons (.ret (.sub (.var 0) (.var 1)))
    .nil) .nil)
  (.cons (.ret (.int 0))
  .nil))⟩
noncomputable def F_law_sign_by : Fn := ⟨1, ["_law_cell", "_law_some"], 2,
  (.cons (.assign (.var 1) (.str (Str.ofString " !\"#$&'()*+,-./0123456789:;<=>?@ABCDEFGHIJKLMNOPQRSTUVWXYZ[\\]^_`")))
  (.cons (.assign (.var 1) (.bin .add (.var 1) (.str (Str.ofString "abcdefghijklmnopqrstuvwxyz{|}~\n"))))
  (.cons (.ret (.sub (.var 1) (.bin .mod (.var 0) (.int 95))))
  .nil)))⟩
noncomputable def F_law_symbol_by : Fn := ⟨3, ["_law_cell", "_law_many", "_law_first"], 3,
  (.cons (.ite (.or (.cmp (.var 1) (.one .eq (.int 0))) (.cmp (.bin .mod (.var 0) (.int 3)) (.one .eq (.int 0)))) (.cons (.ret (.call "_law_sign_by" (.cons (.bin .add (.var 2) (.bin .mul (.bin .mod (.bin .fdiv (.var 0) (.int 3)) (.int 3)) (.bin .add (.int 1) (.bin .mod (.bin .fdiv (.var 2) (.int 95)) (.int 94))))) .nil)))
    .nil) .nil)
  (.cons (.ite (.cmp (.bin .mod (.var 0) (.int 3)) (.one .eq (.int 1))) (.cons (.ret (.bin .sub (.var 1) (.int 1)))
    .nil) .nil)
  (.cons (.ret (.bin .mod (.bin .fdiv (.var 0) (.int 3)) (.var 1)))
  .nil)))⟩
noncomputable def F_law_book_by : Fn := ⟨2, ["_law_cells", "_law_first", "_law_rules", "_law_row", "_law_cell", "_law_one"], 6,
  (.cons (.own 2 (.list .nil))
  (.cons (.own 3 (.list .nil))
  (.cons (.for (.var 4) (.seq (.var 0)) (.cons (.ite (.cmp (.bin .mod (.var 4) (.int 3)) (.one .lt (.int 2))) (.cons (.assign (.var 5) (.call "_law_symbol_by" (.cons (.bin .fdiv (.var 4) (.int 3)) (.cons (.len (.var 2)) (.cons (.var 1) .nil)))))
      (.cons (.append (.var 2) (.pure (.tup (.cons (.var 5) (.cons (.call "_law_symbol_by" (.cons (.bin .fdiv (.var 4) (.int 47)) (.cons (.len (.var 2)) (.cons (.var 1) .nil)))) .nil)))))
      .nil)) (.cons (.append (.var 3) (.pure (.call "_law_symbol_by" (.cons (.bin .fdiv (.var 4) (.int 3)) (.cons (.len (.var 2)) (.cons (.var 1) .nil))))))
      .nil))
    .nil))
  (.cons (.ret (.tup (.cons (.var 2) (.cons (.var 3) .nil))))
  .nil))))⟩
noncomputable def F_law_odd : Fn := ⟨2, ["_law_cell", "_law_many", "_law_some"], 3,
  (.cons (.assign (.var 2) (.list (.cons (.str (Str.ofString "")) (.cons (.str (Str.ofString "ab")) (.cons (.neg (.int 1)) (.cons (.var 1) (.cons (.bin .add (.var 1) (.int 1)) (.cons (.bin .pow (.int 10) (.int 30)) (.cons (.bool true) (.cons (.bool false) (.cons .none (.cons (.tup (.cons (.int 0) .nil)) (.cons (.list (.cons (.int 0) .nil)) (.cons (.tup (.cons (.str (Str.ofString "a")) .nil)) .nil))))))))))))))
  (.cons (.ret (.sub (.var 2) (.bin .mod (.var 0) (.int 12))))
  .nil))⟩
noncomputable def F_law_asked : Fn := ⟨2, ["_law_way", "_law_book"], 2,
  (.cons (.ite (.cmp (.var 0) (.one .eq (.int 0))) (.cons (.ret (.call "need_book" (.cons (.var 1) .nil)))
    .nil) .nil)
  (.cons (.ite (.cmp (.var 0) (.one .eq (.int 1))) (.cons (.ret (.call "lengths" (.cons (.var 1) .nil)))
    .nil) .nil)
  (.cons (.ite (.cmp (.var 0) (.one .eq (.int 2))) (.cons (.ret (.call "uses" (.cons (.var 1) .nil)))
    .nil) .nil)
  (.cons (.ite (.cmp (.var 0) (.one .eq (.int 3))) (.cons (.ret (.call "written_out" (.cons (.var 1) .nil)))
    .nil) .nil)
  (.cons (.ite (.cmp (.var 0) (.one .eq (.int 4))) (.cons (.ret (.call "sign_at" (.cons (.var 1) (.cons (.neg (.int 1)) .nil))))
    .nil) .nil)
  (.cons (.ite (.cmp (.var 0) (.one .eq (.int 5))) (.cons (.ret (.call "cut" (.cons (.var 1) (.cons (.int 5) (.cons (.int 3) .nil)))))
    .nil) .nil)
  (.cons (.ite (.cmp (.var 0) (.one .eq (.int 6))) (.cons (.ret (.call "how_often" (.cons (.var 1) (.cons (.str (Str.ofString "")) .nil))))
    .nil) .nil)
  (.cons (.ite (.cmp (.var 0) (.one .eq (.int 7))) (.cons (.ret (.call "first_place" (.cons (.var 1) (.cons (.str (Str.ofString "")) .nil))))
    .nil) .nil)
  (.cons (.ite (.cmp (.var 0) (.one .eq (.int 8))) (.cons (.ret (.call "length" (.cons (.var 1) .nil)))
    .nil) .nil)
  (.cons (.ite (.cmp (.var 0) (.one .eq (.int 9))) (.cons (.ret (.call "depth" (.cons (.var 1) .nil)))
    .nil) .nil)
  (.cons (.ret (.call "shown" (.cons (.var 1) .nil)))
  .nil)))))))))))⟩
noncomputable def F_law_refused : Fn := ⟨2, ["_law_way", "_law_book", "e", "_law_other"], 4,
  (.cons (.tryEx (.call "_law_asked" (.cons (.var 0) (.cons (.var 1) .nil))) "NoBook" none (.cons (.tryEx (.call "need_book" (.cons (.var 1) .nil)) "BookError" (some 2) (.cons (.assign (.var 3) (.or (.isexc (.var 2) "NoPlace") (.or (.isexc (.var 2) "NoText") (.isexc (.var 2) "NoWord"))))
      (.cons (.ret (.and (.isexc (.var 2) "ValueError") (.not (.var 3))))
      .nil)))
    .nil))
  (.cons (.ret (.bool false))
  .nil))⟩
noncomputable def F_law_spoilt : Fn := ⟨2, ["_law_book", "_law_cell", "_law_rules", "_law_row", "_law_where", "_law_spot", "_law_pair", "_law_odd_here"], 8,
  (.cons (.assign (.var 2) (.listOf (.seq (.sub (.var 0) (.int 0)))))
  (.cons (.assign (.var 3) (.listOf (.seq (.sub (.var 0) (.int 1)))))
  (.cons (.assign (.var 4) (.bin .mod (.bin .fdiv (.var 1) (.int 12)) (.int 5)))
  (.cons (.ite (.or (.cmp (.var 4) (.one .eq (.int 0))) (.and (.cmp (.var 4) (.one .eq (.int 1))) (.cmp (.var 2) (.one .eq (.list .nil))))) (.cons (.assign (.var 5) (.bin .mod (.bin .fdiv (.var 1) (.int 60)) (.bin .add (.len (.var 3)) (.int 1))))
    (.cons (.ret (.tup (.cons (.var 2) (.cons (.bin .add (.bin .add (.slice (.var 3) .none (.var 5)) (.list (.cons (.call "_law_odd" (.cons (.var 1) (.cons (.len (.var 2)) .nil))) .nil))) (.slice (.var 3) (.var 5) .none)) .nil))))
    .nil)) .nil)
  (.cons (.ite (.cmp (.var 4) (.one .eq (.int 1))) (.cons (.assign (.var 5) (.bin .mod (.bin .fdiv (.var 1) (.int 60)) (.len (.var 2))))
    (.cons (.own 6 (.list (.cons (.pure (.sub (.sub (.var 2) (.var 5)) (.int 0))) (.cons (.pure (.sub (.sub (.var 2) (.var 5)) (.int 1))) .nil))))
    (.cons (.setitem (.var 6) (.bin .mod (.bin .fdiv (.var 1) (.int 7)) (.int 2)) (.call "_law_odd" (.cons (.var 1) (.cons (.var 5) .nil))))
    (.cons (.ret (.tup (.cons (.bin .add (.bin .add (.slice (.var 2) .none (.var 5)) (.list (.cons (.tupOf (.var 6)) .nil))) (.slice (.var 2) (.bin .add (.var 5) (.int 1)) .none)) (.cons (.var 3) .nil))))
    .nil)))) .nil)
  (.cons (.ite (.cmp (.var 4) (.one .eq (.int 2))) (.cons (.assign (.var 5) (.bin .mod (.bin .fdiv (.var 1) (.int 60)) (.bin .add (.len (.var 2)) (.int 1))))
    (.cons (.assign (.var 7) (.sub (.list (.cons (.tup (.cons (.str (Str.ofString "a")) .nil)) (.cons (.tup (.cons (.str (Str.ofString "a")) (.cons (.str (Str.ofString "b")) (.cons (.str (Str.ofString "c")) .nil)))) (.cons (.list (.cons (.str (Str.ofString "a")) (.cons (.str (Str.ofString "b")) .nil))) (.cons (.str (Str.ofString "ab")) (.cons .none (.cons (.tup .nil) .nil))))))) (.bin .mod (.var 1) (.int 6))))
    (.cons (.ret (.tup (.cons (.bin .add (.bin .add (.slice (.var 2) .none (.var 5)) (.list (.cons (.var 7) .nil))) (.slice (.var 2) (.var 5) .none)) (.cons (.var 3) .nil))))
    .nil))) .nil)
  (.cons (.ite (.cmp (.var 4) (.one .eq (.int 3))) (.cons (.ret (.sub (.list (.cons (.tup (.cons (.var 2) .nil)) (.cons (.tup (.cons (.var 2) (.cons (.var 3) (.cons (.list .nil) .nil)))) (.cons (.list (.cons (.var 2) (.cons (.var 3) .nil))) (.cons (.tup (.cons (.tupOf (.var 2)) (.cons (.var 3) .nil))) .nil))))) (.bin .mod (.var 1) (.int 4))))
    .nil) .nil)
  (.cons (.ret (.sub (.list (.cons .none (.cons (.str (Str.ofString "")) (.cons (.int 7) (.cons (.tup (.cons (.var 2) (.cons (.str (Str.ofString "ab")) .nil))) (.cons (.tup (.cons (.var 2) (.cons (.tupOf (.var 3)) .nil))) (.cons (.tup (.cons .dict0 (.cons (.var 3) .nil))) .nil))))))) (.bin .mod (.var 1) (.int 6))))
  .nil))))))))⟩
noncomputable def F_law : Fn := ⟨1, ["_law_script", "_law_book", "_law_way", "_law_cell", "_law_handed", "_law_found", "_law_many"], 7,
  (.cons (.assign (.var 1) (.call "_law_book_by" (.cons (.slice (.var 0) (.int 3) (.int 33)) (.cons (.call "_law_cell_at" (.cons (.var 0) (.cons (.int 0) .nil))) .nil))))
  (.cons (.assign (.var 2) (.call "_law_cell_at" (.cons (.var 0) (.cons (.int 1) .nil))))
  (.cons (.assign (.var 3) (.call "_law_cell_at" (.cons (.var 0) (.cons (.int 2) .nil))))
  (.cons (.ite (.cmp (.bin .mod (.var 2) (.int 6)) (.one .eq (.int 5))) (.cons (.assign (.var 6) (.bin .add (.int 600) (.bin .mod (.var 3) (.int 2))))
    (.cons (.assign (.var 1) (.tup (.cons (.bin .mul (.list (.cons (.tup (.cons (.str (Str.ofString "a")) (.cons (.str (Str.ofString "b")) .nil))) .nil)) (.var 6)) (.cons (.list (.cons (.bin .sub (.var 6) (.int 1)) .nil)) .nil))))
    (.cons (.ite (.cmp (.bin .mod (.bin .fdiv (.var 3) (.int 2)) (.int 2)) (.one .eq (.int 1))) (.cons (.assign (.var 1) (.tup (.cons (.list (.cons (.tup (.cons (.str (Str.ofString "a")) (.cons (.str (Str.ofString "b")) .nil))) .nil)) (.cons (.bin .mul (.list (.cons (.int 0) .nil)) (.bin .add (.int 2000) (.bin .mod (.var 3) (.int 2)))) .nil))))
      .nil) .nil)
    (.cons (.ite (.cmp (.bin .mod (.var 3) (.int 2)) (.one .eq (.int 1))) (.cons (.ret (.call "_law_refused" (.cons (.bin .mod (.bin .fdiv (.var 3) (.int 4)) (.int 11)) (.cons (.var 1) .nil))))
      .nil) .nil)
    .nil)))) (.cons (.ite (.cmp (.bin .mod (.var 2) (.int 6)) (.one .gt (.int 1))) (.cons (.ret (.call "_law_refused" (.cons (.bin .mod (.bin .fdiv (.var 2) (.int 6)) (.int 11)) (.cons (.call "_law_spoilt" (.cons (.var 1) (.cons (.var 3) .nil))) .nil))))
      .nil) .nil)
    .nil))
  (.cons (.assign (.var 4) (.tup (.cons (.listOf (.seq (.sub (.var 1) (.int 0)))) (.cons (.listOf (.seq (.sub (.var 1) (.int 1)))) .nil))))
  (.cons (.assign (.var 5) (.call "need_book" (.cons (.var 4) .nil)))
  (.cons (.ret (.and (.isinst (.var 5) .tuple) (.and (.cmp (.len (.var 5)) (.one .eq (.int 2))) (.and (.cmp (.var 5) (.one .eq (.var 1))) (.cmp (.var 4) (.one .eq (.var 1)))))))
  .nil)))))))⟩
noncomputable def tbl : Tbl := [("is_whole", F_is_whole), ("is_text", F_is_text), ("is_symbol", F_is_symbol), ("is_rule", F_is_rule), ("need_book", F_need_book), ("lengths", F_lengths), ("length", F_length), ("depth", F_depth), ("uses", F_uses), ("written_out", F_written_out), ("sign_at", F_sign_at), ("cut", F_cut), ("shown", F_shown), ("whole", F_whole), ("how_often", F_how_often), ("first_place", F_first_place), ("_law_cell_at", F_law_cell_at), ("_law_sign_by", F_law_sign_by), ("_law_symbol_by", F_law_symbol_by), ("_law_book_by", F_law_book_by), ("_law_odd", F_law_odd), ("_law_asked", F_law_asked), ("_law_refused", F_law_refused), ("_law_spoilt", F_law_spoilt), ("law", F_law)]
noncomputable def gtab : List (String × V) := [("SIGNS", .str (Str.ofString " !\"#$&'()*+,-./0123456789:;<=>?@ABCDEFGHIJKLMNOPQRSTUVWXYZ[\\]^_`abcdefghijklmnopqrstuvwxyz{|}~\n")), ("MOST_RULES", .int 600), ("MOST_ROW", .int 2000), ("MOST_WORD", .int 200)]
end L03
end

section
set_option autoImplicit false
set_option linter.unusedSimpArgs false
set_option linter.unusedVariables false
namespace Lib
open PySem Mine
/-! need_book on any plain thing -/
noncomputable def pl : V → Bool
  | .ref _ => false
  | .iref _ _ _ => false
  | .inst _ _ _ => false
  | .exc _ => false
  | _ => true
noncomputable def isWh : V → Bool
  | .int _ => true
  | _ => false
noncomputable def txtOk (s : Str) : Bool := s.cps.toList.all fun c => hasSub SIGNS ⟨#[c]⟩
noncomputable def isTx : V → Bool
  | .str s => txtOk s
  | _ => false
noncomputable def okS (n : Nat) : V → Bool
  | .int i => decide (0 ≤ i) && decide (i < n)
  | .str s => txtOk s && decide (s.length = 1)
  | _ => false
noncomputable def okR (n : Nat) : V → Bool
  | .tup [a, b] => okS n a && okS n b
  | _ => false
noncomputable def plR : V → Bool
  | .tup [a, b] => pl a && pl b
  | v => pl v
structure Has3 (tbl : Tbl) (gl : List (String × V)) : Prop where
  whole : tbl.lookup "is_whole" = some L03.F_is_whole
  text : tbl.lookup "is_text" = some L03.F_is_text
  symbol : tbl.lookup "is_symbol" = some L03.F_is_symbol
  rule : tbl.lookup "is_rule" = some L03.F_is_rule
  book : tbl.lookup "need_book" = some L03.F_need_book
  signs : gl.lookup "SIGNS" = some (.str SIGNS)
  mr : gl.lookup "MOST_RULES" = some (.int 600)
  mw : gl.lookup "MOST_ROW" = some (.int 2000)
/-- a call that raises -/
noncomputable def Cr (C : Cx) (f : String) (vs : List V) (H : AH) (c : String) : Prop := ∀ (Q : V → Prop) (X : String → Prop), X c → C.call f vs H Q X
noncomputable def Er (C : Cx) (st : St) (e : E) (c : String) : Prop := ∀ (Q : V → Prop) (X : String → Prop), X c → WE C e st Q X
section
variable {C : Cx} {st : St} {ρ : List (Option V)} {H B : AH} {Q : Fl → St → Prop} {X : String → St → Prop} {b r : Bl} {c : String}
theorem er_call {f : String} {es : Es} {vs : List V} (he : Evs C st es vs) (hc : Cr C f vs st.H c) : Er C st (.call f es) c := fun _ _ q => he _ _ (hc _ _ q)
theorem x_rz {k : String} {e : E} {w : V} (he : Ev C st e w) (h : X k st) : WB C (.cons (.rz k e) b) st Q X := he _ _ h
theorem cr_of {tbl : Tbl} {gl : List (String × V)} {cls : Clss} {d : Nat} {f : String} {fn : Fn} {args : List V} (h : tbl.lookup f = some fn) (h1 : args.length = fn.np) (h2 : fn.np ≤ fn.nv)
    (h3 : ∀ (Q : V → Prop) (X : String → Prop), X c → WB (cxN tbl gl cls d) fn.body ⟨args.map some ++ List.replicate (fn.nv - fn.np) none, H, H⟩ (PK H Q) (fun x _ => X x)) : Cr (cxN tbl gl cls (d + 1)) f args H c := fun Q X q => call_of h h1 h2 (h3 Q X q)
end
section
variable {C : Cx} {ρ : List (Option V)} {H H' B : AH} {Q : V → Prop} {X X' X'' : String → St → Prop} {b b' r r' : Bl} {t : Tg} {xs : List V} {e : E} {w w' : V}
/-! returns: at once, out of an if, out of an if in a for -/
theorem r1 (he : Ev C ⟨ρ, H', B⟩ e w) (hf : frz H' H 8 w = some w') (q : Q w') : WB C (.cons (.ret e) b) ⟨ρ, H', B⟩ (PK H Q) X := w_ret he (pk_of hf q)
theorem r2 (he : Ev C ⟨ρ, H', B⟩ e w) (hf : frz H' H 8 w = some w') (q : Q w') : WB C (.cons (.ret e) b) ⟨ρ, H', B⟩ (Kn C r (PK H Q) X') X := w_ret he (show PK H Q (.ret w) ⟨ρ, H', B⟩ from pk_of hf q)
theorem r3 (he : Ev C ⟨ρ, H', B⟩ e w) (hf : frz H' H 8 w = some w') (q : Q w') : WB C (.cons (.ret e) b) ⟨ρ, H', B⟩ (Kn C r (Kf C t b' r' (PK H Q) X' xs) X'') X := w_ret he (show PK H Q (.ret w) ⟨ρ, H', B⟩ from pk_of hf q)
end
section
variable {tbl : Tbl} {gl : List (String × V)} {cls : Clss} {d : Nat} {H : AH}
theorem ist {t : Ty} {v : V} (hp : pl v = true) : isT H t v = isV t v := by
  cases v <;> first | rfl | cases hp
theorem ca_whole3 {v : V} (h : Has3 tbl gl) (hp : pl v = true) : Ca (cxN tbl gl cls (d + 1)) "is_whole" [v] H (.bool (isWh v)) := ca_of h.whole rfl (by decide) fun Q X q => by
  have h1 : ∃ p q, isT H .int v = some p ∧ isT H .bool v = some q ∧ (p && !q) = isWh v := by
    rw [ist hp, ist hp]
    cases v <;> first | exact ⟨_, _, rfl, rfl, rfl⟩ | cases hp
  obtain ⟨p, q', e1, e2, e3⟩ := h1
  refine r1 (ev_and (ev_isi (ev_var rfl) e1) fun _ => ev_not (ev_isi (ev_var rfl) e2)) rfl ?_
  rw [e3]; exact q
theorem ca_text3 {v : V} (h : Has3 tbl gl) (hp : pl v = true) : Ca (cxN tbl gl cls (d + 1)) "is_text" [v] H (.bool (isTx v)) := ca_of h.text rfl (by decide) fun Q X q => by
  by_cases hs : ∃ s, v = .str s
  · obtain ⟨s, rfl⟩ := hs
    refine w_iff (ev_not (ev_isi (ev_var rfl) (show isT H .str (.str s) = some true from rfl))) (kn_nil ?_)
    refine w_for (ei_seq (vs := s.cps.toList.map fun c => .str ⟨#[c]⟩) (ev_var rfl) (by show some (signsOf s) = _; rfl)) (.inl rfl) ?_
    have key : ∀ (l : List Nat) (st : St), st.ρ.length = 2 → st.H = H → Q (.bool (l.all fun c => hasSub SIGNS ⟨#[c]⟩)) → Fo (cxN tbl gl cls d) (.var 1) (.cons (.ite (.cmp (.var 1) (.one .notin (.glob "SIGNS"))) (.cons (.ret (.bool false)) .nil) .nil) .nil) (.cons (.ret (.bool true)) .nil) (PK H Q) (fun x _ => X x) (l.map fun c => .str ⟨#[c]⟩) st := by
      intro l
      induction l with
      | nil => intro st h1 h2 q; obtain ⟨ρ, H', B⟩ := st; have h2 : H' = H := h2; subst h2; exact fo_nil (r1 ev_bool rfl q)
      | cons c l ih =>
        intro st h1 h2 q
        obtain ⟨ρ, H', B⟩ := st
        have h2 : H' = H := h2
        subst h2
        have hl : ρ.length = 2 := h1
        refine fo_cons (ρ' := ρ.set 1 (some (.str ⟨#[c]⟩))) (by show putV _ _ _ = _; unfold putV; rw [if_pos (by omega)]) ?_
        have hv : (ρ.set 1 (some (V.str ⟨#[c]⟩)))[1]? = some (some (.str ⟨#[c]⟩)) := List.getElem?_set_self (by omega)
        refine w_if (!hasSub SIGNS ⟨#[c]⟩) (ev_cmp (ev_var hv) (ec_one (ev_glob h.signs) fun _ q => q)) (fun e => ?_) fun e => ?_
        · rw [List.all_cons, show hasSub SIGNS ⟨#[c]⟩ = false from by simpa using e] at q
          exact r3 ev_bool rfl q
        · rw [List.all_cons, show hasSub SIGNS ⟨#[c]⟩ = true from by simpa using e] at q
          exact kn_nil (kf_nil (ih _ (by simp [hl]) rfl q))
    exact key s.cps.toList _ rfl rfl q
  · have e1 : isT H .str v = some false := by rw [ist hp]; cases v <;> first | exact absurd ⟨_, rfl⟩ hs | rfl | cases hp
    have e2 : isTx v = false := by cases v <;> first | exact absurd ⟨_, rfl⟩ hs | rfl
    rw [e2] at q
    exact w_ift (ev_not (ev_isi (ev_var rfl) e1)) (r2 ev_bool rfl q)
theorem ca_symbol3 {v : V} {n : Nat} (h : Has3 tbl gl) (hp : pl v = true) : Ca (cxN tbl gl cls (d + 2)) "is_symbol" [v, .int n] H (.bool (okS n v)) := ca_of h.symbol rfl (by decide) fun Q X q => by
  refine w_if (isWh v) (ev_call (evs_cons (ev_var rfl) evs_nil) (ca_whole3 h hp)) (fun e => ?_) fun e => ?_
  · cases v with
    | int i => exact r2 (ev_cmp ev_int (ec_more (ev_var rfl) cm_le fun _ => ec_one (ev_var rfl) cm_lt)) rfl q
    | _ => cases e
  · refine kn_nil ?_
    have ht : Ev (cxN tbl gl cls (d + 1)) ⟨[some v, some (.int n)], H, H⟩ (.call "is_text" (.cons (.var 0) .nil)) (.bool (isTx v)) := ev_call (evs_cons (ev_var rfl) evs_nil) (ca_text3 h hp)
    cases v with
    | int i => cases e
    | str s => exact r1 (ev_and ht fun _ => ev_cmp (ev_len (ev_var rfl) rfl) (ec_one ev_int cm_eq)) rfl (by rw [show decide ((s.length : Int) = 1) = decide (s.length = 1) from by rw [decide_eq_decide]; omega]; exact q)
    | _ => exact r1 (ev_and (q := true) ht fun e => by cases e) rfl q
theorem ca_rule3 {v : V} {n : Nat} (h : Has3 tbl gl) (hp : plR v = true) : Ca (cxN tbl gl cls (d + 3)) "is_rule" [v, .int n] H (.bool (okR n v)) := ca_of h.rule rfl (by decide) fun Q X q => by
  by_cases hs : ∃ vs, v = .tup vs
  · obtain ⟨vs, rfl⟩ := hs
    have h0 : Ev (cxN tbl gl cls (d + 2)) ⟨[some (.tup vs), some (.int n)], H, H⟩ (.or (.not (.isinst (.var 0) .tuple)) (.cmp (.len (.var 0)) (.one .ne (.int 2)))) (.bool (false || !decide ((vs.length : Int) = 2))) :=
      ev_or (ev_not (b := true) (ev_isi (ev_var rfl) rfl)) fun _ => ev_cmp (ev_len (ev_var rfl) rfl) (ec_one ev_int cm_ne)
    match vs, hp, q, h0 with
    | [], hp, q, h0 => exact w_ift h0 (r2 ev_bool rfl q)
    | [_], hp, q, h0 => exact w_ift h0 (r2 ev_bool rfl q)
    | [a, b], hp, q, h0 =>
      obtain ⟨p1, p2⟩ := (Bool.and_eq_true _ _).mp hp
      refine w_iff h0 (kn_nil (r1 (ev_and (ev_call (evs_cons (ev_sub (ev_var rfl) ev_int (sb_tup (n := 0) rfl)) (evs_cons (ev_var rfl) evs_nil)) (ca_symbol3 h p1)) fun _ => ev_call (evs_cons (ev_sub (ev_var rfl) ev_int (sb_tup (n := 1) rfl)) (evs_cons (ev_var rfl) evs_nil)) (ca_symbol3 h p2)) rfl q))
    | _ :: _ :: _ :: vs, hp, q, h0 =>
      rw [show (false || !decide ((((_ : V) :: _ :: _ :: vs).length : Int) = 2)) = true from by simp only [List.length_cons]; simp; omega] at h0
      exact w_ift h0 (r2 ev_bool rfl q)
  · have hp' : pl v = true := by cases v <;> first | exact hp | rfl
    have e1 : isT H .tuple v = some false := by rw [ist hp']; cases v <;> first | exact absurd ⟨_, rfl⟩ hs | rfl | cases hp'
    have e2 : okR n v = false := by cases v <;> first | exact absurd ⟨_, rfl⟩ hs | rfl
    rw [e2] at q
    exact w_ift (ev_or (q := true) (ev_not (ev_isi (ev_var rfl) e1)) fun e => by cases e) (r2 ev_bool rfl q)

noncomputable def okRs : Nat → List V → Bool
  | _, [] => true
  | n, v :: r => okR n v && okRs (n + 1) r
noncomputable def bodyR : Bl := .cons (.ite (.not (.call "is_rule" (.cons (.sub (.var 1) (.var 3)) (.cons (.var 3) .nil)))) (.cons (.rz "NoBook" (.str (Str.ofString "no rule"))) .nil) .nil) .nil
noncomputable def bodyS : Bl := .cons (.ite (.not (.call "is_symbol" (.cons (.var 4) (.cons (.len (.var 1)) .nil)))) (.cons (.rz "NoBook" (.str (Str.ofString "no symbol"))) .nil) .nil) .nil
theorem lp_rules {bk : V} {rs row : List V} {Q : V → Prop} {X : String → Prop} {r : Bl} (h : Has3 tbl gl) (hp : ∀ v ∈ rs, plR v = true) : ∀ (m k : Nat) (x : Option V), k + m = rs.length → (okRs k (rs.drop k) = false → X "NoBook") →
    (okRs k (rs.drop k) = true → ∀ x, WB (cxN tbl gl cls (d + 3)) r ⟨[some bk, some (.lst rs), some (.lst row), x, none], H, H⟩ (PK H Q) (fun x _ => X x)) →
    Fo (cxN tbl gl cls (d + 3)) (.var 3) bodyR r (PK H Q) (fun x _ => X x) (upL k rs.length) ⟨[some bk, some (.lst rs), some (.lst row), x, none], H, H⟩
  | 0, k, x, e, h0, h1 => by
    rw [upL_nil (by omega)]
    exact fo_nil (h1 (by rw [List.drop_of_length_le (by omega)]; rfl) x)
  | m + 1, k, x, e, h0, h1 => by
    have hk : k < rs.length := by omega
    rw [upL_cons (by omega)]
    rw [List.drop_eq_getElem_cons hk, okRs] at h0 h1
    refine fo_cons (ρ' := [some bk, some (.lst rs), some (.lst row), some (.int k), none]) rfl ?_
    refine w_if (!okR k rs[k]) (ev_not (ev_call (evs_cons (ev_sub (ev_var rfl) (ev_var rfl) (sb_lst (List.getElem?_eq_getElem hk))) (evs_cons (ev_var rfl) evs_nil)) (ca_rule3 h (hp _ (List.getElem_mem hk))))) (fun e1 => ?_) fun e1 => ?_
    · exact x_rz ev_str (h0 (by rw [show okR k rs[k] = false from by simpa using e1]; rfl))
    · rw [show okR k rs[k] = true from by simpa using e1, Bool.true_and] at h0 h1
      exact kn_nil (kf_nil (lp_rules h hp m (k + 1) (some (.int k)) (by omega) h0 h1))
theorem lp_row {bk : V} {rs row : List V} {Q : V → Prop} {X : String → Prop} {r : Bl} {x3 : Option V} (h : Has3 tbl gl) : ∀ (l : List V) (x : Option V), (∀ v ∈ l, pl v = true) → (l.all (okS rs.length) = false → X "NoBook") →
    (l.all (okS rs.length) = true → ∀ x, WB (cxN tbl gl cls (d + 3)) r ⟨[some bk, some (.lst rs), some (.lst row), x3, x], H, H⟩ (PK H Q) (fun x _ => X x)) →
    Fo (cxN tbl gl cls (d + 3)) (.var 4) bodyS r (PK H Q) (fun x _ => X x) l ⟨[some bk, some (.lst rs), some (.lst row), x3, x], H, H⟩
  | [], x, hp, h0, h1 => fo_nil (h1 rfl x)
  | v :: l, x, hp, h0, h1 => by
    rw [List.all_cons] at h0 h1
    refine fo_cons (ρ' := [some bk, some (.lst rs), some (.lst row), x3, some v]) rfl ?_
    refine w_if (!okS rs.length v) (ev_not (ev_call (evs_cons (ev_var rfl) (evs_cons (ev_len (ev_var rfl) rfl) evs_nil)) (ca_symbol3 (d := d + 1) h (hp _ (List.mem_cons_self ..))))) (fun e1 => ?_) fun e1 => ?_
    · exact x_rz ev_str (h0 (by rw [show okS rs.length v = false from by simpa using e1]; rfl))
    · rw [show okS rs.length v = true from by simpa using e1, Bool.true_and] at h0 h1
      exact kn_nil (kf_nil (lp_row h l (some v) (fun u hu => hp u (List.mem_cons_of_mem _ hu)) h0 h1))
/-- two lists -/
theorem nb_lists {rs row : List V} {Q : V → Prop} {X : String → Prop} {w : V} (h : Has3 tbl gl) (hp : ∀ v ∈ rs, plR v = true) (hq : ∀ v ∈ row, pl v = true) (hl : rs.length < 2 ^ 40) (hX : ¬ (rs.length ≤ 600 ∧ row.length ≤ 2000 ∧ okRs 0 rs = true ∧ row.all (okS rs.length) = true) → X "NoBook")
    (hQ : (rs.length ≤ 600 ∧ row.length ≤ 2000 ∧ okRs 0 rs = true ∧ row.all (okS rs.length) = true) → frz H H 8 (.tup [.lst rs, .lst row]) = some w ∧ Q w) : (cxN tbl gl cls (d + 4)).call "need_book" [.tup [.lst rs, .lst row]] H Q X := by
  refine call_of h.book rfl (by decide) ?_
  refine w_iff (ev_or (ev_not (b := true) (ev_isi (ev_var rfl) rfl)) fun _ => ev_cmp (ev_len (ev_var rfl) rfl) (ec_one ev_int cm_ne)) (kn_nil ?_)
  refine w_asg (ev_sub (ev_var rfl) ev_int (sb_tup (n := 0) rfl)) rfl ?_
  refine w_asg (ev_sub (ev_var rfl) ev_int (sb_tup (n := 1) rfl)) rfl ?_
  refine w_iff (ev_or (ev_not (b := true) (ev_isi (ev_var rfl) rfl)) fun _ => ev_not (b := true) (ev_isi (ev_var rfl) rfl)) (kn_nil ?_)
  refine w_if (decide ((rs.length : Int) > 600) || decide ((row.length : Int) > 2000)) (ev_or (ev_cmp (ev_len (ev_var rfl) rfl) (ec_one (ev_glob h.mr) cm_gt)) fun _ => ev_cmp (ev_len (ev_var rfl) rfl) (ec_one (ev_glob h.mw) cm_gt)) (fun e => ?_) fun e => ?_
  · refine x_rz ev_str (hX fun ⟨a, b, _⟩ => ?_)
    simp at e; omega
  · refine kn_nil ?_
    simp at e
    refine w_for (ei_range1 (ev_len (ev_var rfl) rfl) ⟨by omega, by omega⟩) (.inr nofun) ?_
    refine lp_rules h hp rs.length 0 none (by omega) (fun e1 => hX fun ⟨_, _, q, _⟩ => by rw [List.drop_zero] at e1; rw [e1] at q; cases q) fun e1 x3 => ?_
    refine w_for (ei_seq (ev_var rfl) rfl) (.inr nofun) ?_
    refine lp_row h row none hq (fun e2 => hX fun ⟨_, _, _, q⟩ => by rw [e2] at q; cases q) fun e2 x4 => ?_
    obtain ⟨q1, q2⟩ := hQ ⟨by omega, by omega, by rw [List.drop_zero] at e1; exact e1, e2⟩
    exact r1 (ev_var rfl) q1 q2
end
end Lib
end

section
set_option autoImplicit false
set_option linter.unusedSimpArgs false
set_option linter.unusedVariables false
namespace Lib
open PySem Mine
/-! law 03: what is asked, what is refused, what is spoilt -/
noncomputable def EvP (C : Cx) (st : St) (e : E) (P : V → Prop) : Prop := ∀ (Q : V → Prop) (X : String → Prop), (∀ w, P w → Q w) → WE C e st Q X
section
variable {C : Cx} {st : St} {ρ : List (Option V)} {H H' B : AH} {Q : Fl → St → Prop} {X X' : String → St → Prop} {b r : Bl} {c cl : String} {P : V → Prop} {e a : E}
theorem w_asgP {i : Nat} (he : EvP C ⟨ρ, H, B⟩ e P) (hi : Nat.blt i ρ.length = true) (hb : ∀ w, P w → WB C b ⟨ρ.set i (some w), H, B⟩ Q X) : WB C (.cons (.assign (.var i) e) b) ⟨ρ, H, B⟩ Q X := he _ _ fun w hw => by
  show (match (match putV i w ρ with
    | some ρ' => _
    | none => False) with
    | p => p)
  unfold putV; rw [if_pos (Nat.blt_eq.mp hi)]; exact hb w hw
theorem ev_modn {i : Int} {m : Nat} (hm : 0 < m) (ha : Ev C st a (.int i)) : ∃ k : Nat, k < m ∧ i.fmod m = k ∧ Ev C st (.bin .mod a (.int m)) (.int k) := by
  have h := fm i (b := (m : Int)) (by omega)
  refine ⟨(i.fmod m).toNat, by omega, by omega, ?_⟩
  rw [show (((i.fmod m).toNat : Nat) : Int) = i.fmod m from by omega]
  exact ev_mod ha ev_int (by omega)
/-- the divisor is itself worked out -/
theorem ev_modm {i : Int} {m : Nat} {e : E} (hm : 0 < m) (ha : Ev C st a (.int i)) (he : Ev C st e (.int m)) : ∃ k : Nat, k < m ∧ Ev C st (.bin .mod a e) (.int k) := by
  have h := fm i (b := (m : Int)) (by omega)
  refine ⟨(i.fmod m).toNat, by omega, ?_⟩
  rw [show (((i.fmod m).toNat : Nat) : Int) = i.fmod m from by omega]
  exact ev_mod ha he (by omega)
theorem ev_pick {es : Es} {vs : List V} {i : Int} {m : Nat} (hs : Evs C st es vs) (hn : Nat.ble vs.length 16777216 = true) (hl : vs.length = m) (hm : 0 < m) (ha : Ev C st a (.int i)) : ∃ w ∈ vs, Ev C st (.sub (.list es) (.bin .mod a (.int m))) w := by
  obtain ⟨k, hk, _, e⟩ := ev_modn hm ha
  exact ⟨vs[k]'(by omega), List.getElem_mem _, ev_sub (ev_list hs hn) e (sb_lst (List.getElem?_eq_getElem _))⟩
theorem ev_take {l : List V} {hi : E} {k : Nat} (ha : Ev C st a (.lst l)) (hh : Ev C st hi (.int k)) (hk : k ≤ l.length) : Ev C st (.slice a .none hi) (.lst (l.take k)) := fun Q X q => ha _ _ (hh _ _ (by
  have e : clip l.length (k : Int) = k := by unfold clip; rw [if_neg (by omega)]; omega
  show Q (.lst (cutL l 0 (clip l.length (k : Int))))
  rw [e]; exact q))
theorem ev_drop {l : List V} {lo : E} {k : Nat} (ha : Ev C st a (.lst l)) (hh : Ev C st lo (.int k)) (hk : k ≤ l.length) : Ev C st (.slice a lo .none) (.lst (l.drop k)) := fun Q X q => ha _ _ (hh _ _ (by
  have e : clip l.length (k : Int) = k := by unfold clip; rw [if_neg (by omega)]; omega
  show Q (.lst (cutL l (clip l.length (k : Int)) l.length))
  rw [e]; unfold cutL; rw [List.take_of_length_le (by rw [List.length_drop]; omega)]; exact q))
theorem ev_tupOf {u : V} {vs : List V} (ha : Ev C st a u) (h : seqL st.H u = some vs) : Ev C st (.tupOf a) (.tup vs) := fun Q _ q => ha _ _ (by
  show seqP st.H u _
  unfold seqP; rw [h]; exact q)
theorem ev_isx {t : String} (ha : Ev C st a (.exc c)) (hc : allX.contains c = true) : Ev C st (.isexc a t) (.bool (subX c t)) := fun _ _ q => ha _ _ ⟨hc, q⟩
theorem w_try0 {h : Bl} (he : Er C st e c) (hs : subX c cl = true) (hh : WB C h st (Kn C r Q X) (fun _ _ => False)) : WB C (.cons (.tryEx e cl none h) r) st Q X := he _ _ ⟨hs, hh⟩
theorem w_try1 {h : Bl} {i : Nat} (he : Er C ⟨ρ, H, B⟩ e c) (hs : subX c cl = true) (hi : Nat.blt i ρ.length = true) (hh : WB C h ⟨ρ.set i (some (.exc c)), H, B⟩ (fun f st' => Kn C r Q X f { st' with ρ := st'.ρ.set i none }) (fun _ _ => False)) : WB C (.cons (.tryEx e cl (some i) h) r) ⟨ρ, H, B⟩ Q X := he _ _ ⟨hs, Nat.blt_eq.mp hi, hh⟩
end
/-! things that stand as they are when a call gives them back -/
noncomputable def Sf (n : Nat) (v : V) : Prop := ∀ H B, frz H B n v = some v
theorem sf_all {n : Nat} : ∀ {l : List V}, (∀ v ∈ l, Sf n v) → ∀ H B, mapO (frz H B n) l = some l
  | [], _, _, _ => rfl
  | v :: l, h, H, B => by
    show (match frz H B n v, mapO (frz H B n) l with
      | some x, some xs => some (x :: xs)
      | _, _ => none) = _
    rw [h v (List.mem_cons_self ..) H B, sf_all (fun u hu => h u (List.mem_cons_of_mem _ hu)) H B]
theorem sf_tup {n : Nat} {l : List V} (h : ∀ v ∈ l, Sf n v) : Sf (n + 1) (.tup l) := fun H B => by
  show (mapO (frz H B n) l).map V.tup = _
  rw [sf_all h H B]; rfl
theorem sf_lst {n : Nat} {l : List V} (h : ∀ v ∈ l, Sf n v) : Sf (n + 1) (.lst l) := fun H B => by
  show (mapO (frz H B n) l).map V.lst = _
  rw [sf_all h H B]; rfl
theorem sf_two {n : Nat} {a b : V} (h1 : Sf n a) (h2 : Sf n b) : Sf (n + 1) (.tup [a, b]) := sf_tup fun v hv => by
  rcases List.mem_cons.mp hv with rfl | hv
  · exact h1
  · rw [List.mem_singleton.mp hv]; exact h2
theorem sf_sy {n : Nat} (s : Sy) : Sf (n + 1) s.v := fun H B => by cases s <;> rfl
theorem sf_pv {n : Nat} (p : Rl) : Sf (n + 2) (pv p) := sf_two (sf_sy _) (sf_sy _)
section
variable {tbl : Tbl} {gl : List (String × V)} {cls : Clss} {d : Nat} {H : AH}
noncomputable def Bad (tbl : Tbl) (gl : List (String × V)) (cls : Clss) (w : V) : Prop := ∀ (d : Nat) (H : AH), Cr (cxN tbl gl cls (d + 4)) "need_book" [w] H "NoBook"
end
end Lib
end

section
set_option autoImplicit false
namespace L08
open PySem Mine

noncomputable def F_is_whole : Fn := ⟨1, ["thing"], 1,
  (.cons (.ret (.and (.isinst (.var 0) .int) (.not (.isinst (.var 0) .bool))))
  .nil)⟩
noncomputable def F_is_text : Fn := ⟨1, ["thing", "sign"], 2,
  (.cons (.ite (.not (.isinst (.var 0) .str)) (.cons (.ret (.bool false))
    .nil) .nil)
  (.cons (.for (.var 1) (.seq (.var 0)) (.cons (.ite (.cmp (.var 1) (.one .notin (.glob "SIGNS"))) (.cons (.ret (.bool false))
      .nil) .nil)
    .nil))
  (.cons (.ret (.bool true))
  .nil)))⟩
noncomputable def F_is_symbol : Fn := ⟨2, ["thing", "below"], 2,
  (.cons (.ite (.call "is_whole" (.cons (.var 0) .nil)) (.cons (.ret (.cmp (.int 0) (.more .le (.var 0) (.one .lt (.var 1)))))
    .nil) .nil)
  (.cons (.ret (.and (.call "is_text" (.cons (.var 0) .nil)) (.cmp (.len (.var 0)) (.one .eq (.int 1)))))
  .nil))⟩
noncomputable def F_is_rule : Fn := ⟨2, ["rule", "number"], 2,
  (.cons (.ite (.or (.not (.isinst (.var 0) .tuple)) (.cmp (.len (.var 0)) (.one .ne (.int 2)))) (.cons (.ret (.bool false))
    .nil) .nil)
  (.cons (.ret (.and (.call "is_symbol" (.cons (.sub (.var 0) (.int 0)) (.cons (.var 1) .nil))) (.call "is_symbol" (.cons (.sub (.var 0) (.int 1)) (.cons (.var 1) .nil)))))
  .nil))⟩
noncomputable def F_need_book : Fn := ⟨1, ["book", "rules", "row", "number", "symbol"], 5,
  (.cons (.ite (.or (.not (.isinst (.var 0) .tuple)) (.cmp (.len (.var 0)) (.one .ne (.int 2)))) (.cons (.rz "NoBook" (.str (Str.ofString "no pair")))
    .nil) .nil)
  (.cons (.assign (.var 1) (.sub (.var 0) (.int 0)))
  (.cons (.assign (.var 2) (.sub (.var 0) (.int 1)))
  (.cons (.ite (.or (.not (.isinst (.var 1) .list)) (.not (.isinst (.var 2) .list))) (.cons (.rz "NoBook" (.str (Str.ofString "no two lists")))
    .nil) .nil)
  (.cons (.ite (.or (.cmp (.len (.var 1)) (.one .gt (.glob "MOST_RULES"))) (.cmp (.len (.var 2)) (.one .gt (.glob "MOST_ROW")))) (.cons (.rz "NoBook" (.str (Str.ofString "too long")))
    .nil) .nil)
  (.cons (.for (.var 3) (.range1 (.len (.var 1))) (.cons (.ite (.not (.call "is_rule" (.cons (.sub (.var 1) (.var 3)) (.cons (.var 3) .nil)))) (.cons (.rz "NoBook" (.str (Str.ofString "no rule")))
      .nil) .nil)
    .nil))
  (.cons (.for (.var 4) (.seq (.var 2)) (.cons (.ite (.not (.call "is_symbol" (.cons (.var 4) (.cons (.len (.var 1)) .nil)))) (.cons (.rz "NoBook" (.str (Str.ofString "no symbol")))
      .nil) .nil)
    .nil))
  (.cons (.ret (.var 0))
  .nil))))))))⟩
noncomputable def F_symbol_at : Fn := ⟨2, ["line", "at", "stop", "figures"], 4,
  (.cons (.ite (.cmp (.slice (.var 0) (.var 1) (.bin .add (.var 1) (.int 1))) (.one .eq (.str (Str.ofString "'")))) (.cons (.ite (.cmp (.bin .add (.var 1) (.int 1)) (.one .ge (.len (.var 0)))) (.cons (.rz "NoBook" (.str (Str.ofString "no sign")))
      .nil) .nil)
    (.cons (.ret (.tup (.cons (.sub (.var 0) (.bin .add (.var 1) (.int 1))) (.cons (.bin .add (.var 1) (.int 2)) .nil))))
    .nil)) .nil)
  (.cons (.assign (.var 2) (.var 1))
  (.cons (.while (.and (.cmp (.var 2) (.one .lt (.len (.var 0)))) (.cmp (.sub (.var 0) (.var 2)) (.one .isin (.glob "FIGURES")))) (.cons (.assign (.var 2) (.bin .add (.var 2) (.int 1)))
    .nil))
  (.cons (.assign (.var 3) (.slice (.var 0) (.var 1) (.var 2)))
  (.cons (.ite (.or (.cmp (.var 3) (.one .eq (.str (Str.ofString "")))) (.or (.cmp (.len (.var 3)) (.one .gt (.glob "MOST_FIGURES"))) (.and (.cmp (.len (.var 3)) (.one .gt (.int 1))) (.cmp (.sub (.var 3) (.int 0)) (.one .eq (.str (Str.ofString "0"))))))) (.cons (.rz "NoBook" (.str (Str.ofString "no number")))
    .nil) .nil)
  (.cons (.ret (.tup (.cons (.intOf (.var 3)) (.cons (.var 2) .nil))))
  .nil))))))⟩
noncomputable def F_rows_of : Fn := ⟨1, ["line", "rows", "at", "told"], 4,
  (.cons (.own 1 (.list (.cons (.list .nil) .nil)))
  (.cons (.assign (.var 2) (.int 0))
  (.cons (.while (.cmp (.var 2) (.one .lt (.len (.var 0)))) (.cons (.ite (.and (.cmp (.sub (.var 0) (.var 2)) (.one .eq (.str (Str.ofString "\n")))) (.cmp (.sub (.var 1) (.neg (.int 1))) (.one .eq (.list .nil)))) (.cons (.rz "NoBook" (.str (Str.ofString "an empty rule")))
      .nil) .nil)
    (.cons (.assign (.var 3) (.call "symbol_at" (.cons (.var 0) (.cons (.var 2) .nil))))
    (.cons (.append (.sub (.var 1) (.neg (.int 1))) (.pure (.sub (.var 3) (.int 0))))
    (.cons (.assign (.var 2) (.sub (.var 3) (.int 1)))
    (.cons (.ite (.cmp (.var 2) (.one .lt (.len (.var 0)))) (.cons (.ite (.cmp (.sub (.var 0) (.var 2)) (.one .eq (.str (Str.ofString "\n")))) (.cons (.append (.var 1) (.list .nil))
        .nil) (.cons (.ite (.or (.cmp (.sub (.var 0) (.var 2)) (.one .ne (.str (Str.ofString " ")))) (.cmp (.bin .add (.var 2) (.int 1)) (.one .eq (.len (.var 0))))) (.cons (.rz "NoBook" (.str (Str.ofString "no blank and symbol")))
          .nil) .nil)
        .nil))
      (.cons (.assign (.var 2) (.bin .add (.var 2) (.int 1)))
      .nil)) .nil)
    .nil))))))
  (.cons (.ret (.var 1))
  .nil))))⟩
noncomputable def F_read : Fn := ⟨1, ["line", "rows"], 3,
  (.cons (.ite (.not (.isinst (.var 0) .str)) (.cons (.rz "NoBook" (.str (Str.ofString "no text")))
    .nil) .nil)
  (.cons (.assign (.var 1) (.call "rows_of" (.cons (.var 0) .nil)))
  (.cons (.ret (.call "need_book" (.cons (.tup (.cons (.comp (.tupOf (.var 2)) (.var 2) (.seq (.slice (.var 1) .none (.neg (.int 1))))) (.cons (.sub (.var 1) (.neg (.int 1))) .nil))) .nil)))
  .nil)))⟩
noncomputable def F_law_cell_at : Fn := ⟨2, ["_law_script", "_law_k"], 2,
  (.cons (.ite (.cmp (.var 1) (.one .lt (.len (.var 0)))) (.cons (.ret (.sub (.var 0) (.var 1)))
    .nil) .nil)
  (.cons (.ret (.int 0))
  .nil))⟩
noncomputable def F_law_symbol : Fn := ⟨2, ["_law_cell", "_law_many"], 2,
  (.cons (.ite (.or (.cmp (.var 1) (.one .eq (.int 0))) (.cmp (.bin .mod (.var 0) (.int 2)) (.one .eq (.int 0)))) (.cons (.ret (.bin .add (.str (Str.ofString "'")) (.sub (.str (Str.ofString "abcdefghijklmnopqrstuvwxyz0123456789")) (.bin .mod (.bin .fdiv (.var 0) (.int 2)) (.int 36)))))
    .nil) .nil)
  (.cons (.ret (.strOf (.bin .mod (.bin .fdiv (.var 0) (.int 2)) (.var 1))))
  .nil))⟩
noncomputable def F_law_refused : Fn := ⟨1, ["_law_line_here", "e"], 2,
  (.cons (.tryEx (.call "read" (.cons (.var 0) .nil)) "NoBook" none (.cons (.tryEx (.call "read" (.cons (.var 0) .nil)) "BookError" (some 1) (.cons (.ret (.isexc (.var 1) "ValueError"))
      .nil))
    .nil))
  (.cons (.ret (.bool false))
  .nil))⟩
noncomputable def F_law_rows : Fn := ⟨2, ["_law_script", "_law_many", "_law_rows_here", "_law_k", "_law_last_here", "_law_one"], 6,
  (.cons (.own 2 (.list .nil))
  (.cons (.for (.var 3) (.range1 (.var 1)) (.cons (.assign (.var 5) (.call "_law_symbol" (.cons (.call "_law_cell_at" (.cons (.var 0) (.cons (.bin .add (.int 2) (.bin .mul (.int 2) (.var 3))) .nil))) (.cons (.var 3) .nil))))
    (.cons (.append (.var 2) (.pure (.list (.cons (.var 5) (.cons (.call "_law_symbol" (.cons (.call "_law_cell_at" (.cons (.var 0) (.cons (.bin .add (.int 3) (.bin .mul (.int 2) (.var 3))) .nil))) (.cons (.var 3) .nil))) .nil)))))
    .nil)))
  (.cons (.own 4 (.list .nil))
  (.cons (.for (.var 3) (.range1 (.bin .mod (.bin .fdiv (.call "_law_cell_at" (.cons (.var 0) (.cons (.int 1) .nil))) (.int 7)) (.int 6))) (.cons (.append (.var 4) (.pure (.call "_law_symbol" (.cons (.call "_law_cell_at" (.cons (.var 0) (.cons (.bin .add (.int 20) (.var 3)) .nil))) (.cons (.var 1) .nil)))))
    .nil))
  (.cons (.retO (.bin .add (.var 2) (.list (.cons (.var 4) .nil))))
  .nil)))))⟩
noncomputable def F_law_spoilt : Fn := ⟨3, ["_law_rows_here", "_law_cell", "_law_many", "_law_at", "_law_spot", "_law_odd", "_law_pair"], 7,
  (.cons (.assign (.var 3) (.bin .mod (.bin .fdiv (.var 1) (.int 10)) (.var 2)))
  (.cons (.assign (.var 4) (.bin .mod (.bin .fdiv (.var 1) (.int 80)) (.int 2)))
  (.cons (.assign (.var 5) (.sub (.list (.cons (.str (Str.ofString "")) (.cons (.str (Str.ofString "x")) (.cons (.str (Str.ofString "' x")) (.cons (.str (Str.ofString "00")) (.cons (.strOf (.bin .add (.var 2) (.var 3))) (.cons (.str (Str.ofString "'ab")) (.cons (.str (Str.ofString "-1")) (.cons (.str (Str.ofString "1.")) (.cons (.strOf (.var 3)) (.cons (.str (Str.ofString "'a ")) .nil))))))))))) (.bin .mod (.var 1) (.int 10))))
  (.cons (.assign (.var 6) (.list (.cons (.var 5) (.cons (.sub (.sub (.var 0) (.var 3)) (.int 1)) .nil))))
  (.cons (.ite (.cmp (.var 4) (.one .eq (.int 1))) (.cons (.assign (.var 6) (.list (.cons (.sub (.sub (.var 0) (.var 3)) (.int 0)) (.cons (.var 5) .nil))))
    .nil) .nil)
  (.cons (.ret (.bin .add (.bin .add (.slice (.var 0) .none (.var 3)) (.list (.cons (.var 6) .nil))) (.slice (.var 0) (.bin .add (.var 3) (.int 1)) .none)))
  .nil))))))⟩
noncomputable def F_law_last : Fn := ⟨3, ["_law_rows_here", "_law_cell", "_law_many", "_law_odd", "_law_spot"], 5,
  (.cons (.assign (.var 3) (.sub (.list (.cons (.str (Str.ofString "\t")) (.cons (.str (Str.ofString "x")) (.cons (.str (Str.ofString "' x")) (.cons (.str (Str.ofString "00")) (.cons (.strOf (.var 2)) (.cons (.strOf (.bin .add (.var 2) (.int 7))) (.cons (.str (Str.ofString "'ab")) (.cons (.str (Str.ofString "-1")) (.cons (.str (Str.ofString "1.")) (.cons (.str (Str.ofString "'a '")) .nil))))))))))) (.bin .mod (.var 1) (.int 10))))
  (.cons (.assign (.var 4) (.bin .mod (.bin .fdiv (.var 1) (.int 10)) (.bin .add (.len (.sub (.var 0) (.neg (.int 1)))) (.int 1))))
  (.cons (.ret (.bin .add (.slice (.var 0) .none (.neg (.int 1))) (.list (.cons (.bin .add (.bin .add (.slice (.sub (.var 0) (.neg (.int 1))) .none (.var 4)) (.list (.cons (.var 3) .nil))) (.slice (.sub (.var 0) (.neg (.int 1))) (.var 4) .none)) .nil))))
  .nil)))⟩
noncomputable def F_law_cut : Fn := ⟨1, ["_law_rows_here", "_law_line_here"], 2,
  (.cons (.assign (.var 1) (.call "_law_line" (.cons (.var 0) .nil)))
  (.cons (.ite (.not (.call "_law_refused" (.cons (.bin .add (.var 1) (.str (Str.ofString " '"))) .nil))) (.cons (.ret (.bool false))
    .nil) .nil)
  (.cons (.ite (.and (.cmp (.len (.sub (.var 0) (.neg (.int 1)))) (.one .gt (.int 0))) (.cmp (.sub (.sub (.sub (.var 0) (.neg (.int 1))) (.neg (.int 1))) (.int 0)) (.one .eq (.str (Str.ofString "'"))))) (.cons (.ret (.call "_law_refused" (.cons (.slice (.var 1) .none (.neg (.int 1))) .nil)))
    .nil) .nil)
  (.cons (.ret (.bool true))
  .nil))))⟩
noncomputable def F_law_line : Fn := ⟨1, ["_law_rows_here"], 2,
  (.cons (.ret (.join (.str (Str.ofString "\n")) (.comp (.join (.str (Str.ofString " ")) (.var 1)) (.var 1) (.seq (.var 0)))))
  .nil)⟩
noncomputable def F_law : Fn := ⟨1, ["_law_script", "_law_many", "_law_cell", "_law_rows_here", "_law_way", "_law_more", "_law_at", "_law_line_here", "_law_found", "_law_pair"], 10,
  (.cons (.assign (.var 1) (.bin .add (.int 2) (.bin .mod (.call "_law_cell_at" (.cons (.var 0) (.cons (.int 1) .nil))) (.int 7))))
  (.cons (.assign (.var 2) (.call "_law_cell_at" (.cons (.var 0) (.cons (.int 0) .nil))))
  (.cons (.own 3 (.callO "_law_rows" (.cons (.var 0) (.cons (.var 1) .nil))))
  (.cons (.assign (.var 4) (.sub (.list (.cons (.int 0) (.cons (.int 1) (.cons (.int 2) (.cons (.int 3) (.cons (.int 4) (.cons (.int 5) (.cons (.int 2) (.cons (.int 5) (.cons (.int 2) .nil)))))))))) (.bin .mod (.var 2) (.int 9))))
  (.cons (.assign (.var 5) (.bin .fdiv (.var 2) (.int 9)))
  (.cons (.ite (.cmp (.var 4) (.one .eq (.int 0))) (.cons (.assign (.var 8) (.call "read" (.cons (.call "_law_line" (.cons (.var 3) .nil)) .nil)))
    (.cons (.ret (.and (.isinst (.var 8) .tuple) (.and (.cmp (.len (.sub (.var 8) (.int 0))) (.one .eq (.var 1))) (.cmp (.len (.sub (.var 8) (.int 1))) (.one .eq (.len (.sub (.var 3) (.neg (.int 1)))))))))
    .nil)) .nil)
  (.cons (.ite (.cmp (.var 4) (.one .eq (.int 1))) (.cons (.ret (.call "_law_refused" (.cons (.sub (.list (.cons .none (.cons (.int 5) (.cons (.list (.cons (.str (Str.ofString "'a")) .nil)) (.cons (.tup (.cons (.str (Str.ofString "'a")) (.cons (.str (Str.ofString "'b")) .nil))) (.cons (.bool true) (.cons (.list .nil) .nil))))))) (.bin .mod (.var 5) (.int 6))) .nil)))
    .nil) .nil)
  (.cons (.ite (.and (.cmp (.var 4) (.one .eq (.int 2))) (.cmp (.bin .mod (.var 5) (.int 3)) (.one .eq (.int 1)))) (.cons (.ret (.and (.call "_law_refused" (.cons (.call "_law_line" (.cons (.call "_law_last" (.cons (.var 3) (.cons (.bin .fdiv (.var 5) (.int 3)) (.cons (.var 1) .nil)))) .nil)) .nil)) (.call "_law_cut" (.cons (.var 3) .nil))))
    .nil) .nil)
  (.cons (.ite (.cmp (.var 4) (.one .eq (.int 2))) (.cons (.ret (.call "_law_refused" (.cons (.call "_law_line" (.cons (.call "_law_spoilt" (.cons (.var 3) (.cons (.bin .fdiv (.var 5) (.int 3)) (.cons (.var 1) .nil)))) .nil)) .nil)))
    .nil) .nil)
  (.cons (.assign (.var 6) (.bin .mod (.bin .fdiv (.var 5) (.int 4)) (.var 1)))
  (.cons (.ite (.cmp (.var 4) (.one .eq (.int 3))) (.cons (.setitem (.var 3) (.var 6) (.bin .add (.slice (.sub (.var 3) (.var 6)) .none (.int 1)) (.slice (.list (.cons (.str (Str.ofString "'a")) (.cons (.str (Str.ofString "'b")) .nil))) .none (.bin .mul (.int 2) (.bin .mod (.var 5) (.int 2))))))
    (.cons (.ret (.call "_law_refused" (.cons (.call "_law_line" (.cons (.var 3) .nil)) .nil)))
    .nil)) .nil)
  (.cons (.assign (.var 7) (.call "_law_line" (.cons (.var 3) .nil)))
  (.cons (.ite (.cmp (.var 4) (.one .eq (.int 4))) (.cons (.ite (.and (.cmp (.bin .mod (.var 5) (.int 4)) (.one .eq (.int 2))) (.cmp (.len (.sub (.var 3) (.neg (.int 1)))) (.one .ne (.int 2)))) (.cons (.ret (.call "_law_refused" (.cons (.bin .add (.var 7) (.str (Str.ofString "\n'a"))) .nil)))
      .nil) .nil)
    (.cons (.ret (.call "_law_refused" (.cons (.sub (.list (.cons (.bin .add (.str (Str.ofString " ")) (.var 7)) (.cons (.bin .add (.str (Str.ofString "\n")) (.var 7)) (.cons (.bin .add (.str (Str.ofString " ")) (.var 7)) (.cons (.bin .add (.str (Str.ofString "'a\n")) (.var 7)) .nil))))) (.bin .mod (.var 5) (.int 4))) .nil)))
    .nil)) .nil)
  (.cons (.ite (.cmp (.bin .mod (.var 5) (.int 6)) (.one .eq (.int 3))) (.cons (.assign (.var 9) (.sub (.var 3) (.var 6)))
    (.cons (.setitem (.var 3) (.var 6) (.sub (.list (.cons (.list (.cons (.bin .add (.sub (.var 9) (.int 0)) (.str (Str.ofString " "))) (.cons (.sub (.var 9) (.int 1)) .nil))) (.cons (.list (.cons (.bin .add (.sub (.var 9) (.int 0)) (.sub (.var 9) (.int 1))) .nil)) (.cons (.list (.cons (.bin .add (.str (Str.ofString " ")) (.sub (.var 9) (.int 0))) (.cons (.sub (.var 9) (.int 1)) .nil))) .nil)))) (.bin .mod (.bin .fdiv (.var 5) (.int 24)) (.int 3))))
    (.cons (.ret (.call "_law_refused" (.cons (.call "_law_line" (.cons (.var 3) .nil)) .nil)))
    .nil))) .nil)
  (.cons (.ite (.cmp (.bin .mod (.var 5) (.int 6)) (.one .eq (.int 4))) (.cons (.ret (.and (.call "_law_refused" (.cons (.bin .add (.var 7) (.str (Str.ofString " "))) .nil)) (.or (.cmp (.len (.sub (.var 3) (.neg (.int 1)))) (.one .eq (.int 2))) (.call "_law_refused" (.cons (.bin .add (.var 7) (.str (Str.ofString "\n"))) .nil)))))
    .nil) .nil)
  (.cons (.ite (.cmp (.bin .mod (.var 5) (.int 6)) (.one .eq (.int 5))) (.cons (.ret (.call "_law_refused" (.cons (.sub (.list (.cons (.bin .mul (.str (Str.ofString "'a 'b\n")) (.int 601)) (.cons (.bin .add (.bin .add (.str (Str.ofString "'a 'b\n")) (.bin .mul (.str (Str.ofString "0 ")) (.int 2000))) (.str (Str.ofString "0"))) .nil))) (.bin .mod (.bin .fdiv (.var 5) (.int 6)) (.int 2))) .nil)))
    .nil) .nil)
  (.cons (.ret (.call "_law_refused" (.cons (.bin .add (.call "_law_line" (.cons (.bin .add (.slice (.var 3) .none (.neg (.int 1))) (.list (.cons (.list (.cons (.str (Str.ofString "'a")) .nil)) (.cons (.list (.cons (.str (Str.ofString "'b")) .nil)) .nil)))) .nil)) (.sub (.list (.cons (.str (Str.ofString " ")) (.cons (.str (Str.ofString "")) (.cons (.str (Str.ofString "\n")) .nil)))) (.bin .mod (.var 5) (.int 3)))) .nil)))
  .nil)))))))))))))))))⟩
noncomputable def tbl : Tbl := [("is_whole", F_is_whole), ("is_text", F_is_text), ("is_symbol", F_is_symbol), ("is_rule", F_is_rule), ("need_book", F_need_book), ("symbol_at", F_symbol_at), ("rows_of", F_rows_of), ("read", F_read), ("_law_cell_at", F_law_cell_at), ("_law_symbol", F_law_symbol), ("_law_refused", F_law_refused), ("_law_rows", F_law_rows), ("_law_spoilt", F_law_spoilt), ("_law_last", F_law_last), ("_law_cut", F_law_cut), ("_law_line", F_law_line), ("law", F_law)]
noncomputable def gtab : List (String × V) := [("SIGNS", .str (Str.ofString " !\"#$&'()*+,-./0123456789:;<=>?@ABCDEFGHIJKLMNOPQRSTUVWXYZ[\\]^_`abcdefghijklmnopqrstuvwxyz{|}~\n")), ("MOST_RULES", .int 600), ("MOST_ROW", .int 2000), ("FIGURES", .str (Str.ofString "0123456789")), ("MOST_FIGURES", .int 4)]
end L08
end

section
set_option autoImplicit false
set_option linter.unusedSimpArgs false
set_option linter.unusedVariables false
namespace Lib
open PySem Mine
/-! law 08: what symbol_at reads -/
noncomputable def dg (c : Nat) : Bool := hasSub (Str.ofString "0123456789") ⟨#[c]⟩
/-- the first symbol of a text, and what stands behind it -/
inductive Sm where
  | ok (v : V) (n : Nat)
  | bad
  | unk
noncomputable def sm (l : List Nat) : Sm := match l with
  | 39 :: r => (match r with
    | c :: _ => .ok (.str ⟨#[c]⟩) 2
    | [] => .bad)
  | l => if (l.takeWhile dg = [] ∨ 4 < (l.takeWhile dg).length) ∨ (1 < (l.takeWhile dg).length ∧ l.head? = some 48) then .bad
    else if allDigits (l.takeWhile dg) = true then .ok (.int (digitsVal (l.takeWhile dg))) (l.takeWhile dg).length else .unk
theorem ofi {C : Cx} {st : St} {e : E} {i : Int} {k : Nat} (h : Ev C st e (.int i)) (hk : i = k) : Ev C st e (.int k) := hk ▸ h
section
variable {C : Cx} {st : St} {a lo hi i : E} {l : List Nat} {p q : Nat}
theorem st_len {l : List Nat} : (⟨l.toArray⟩ : Str).length = l.length := by simp [Str.length]
theorem ev_cut (ha : Ev C st a (lst l)) (h1 : Ev C st lo (.int p)) (h2 : Ev C st hi (.int q)) (hp : p ≤ l.length) : Ev C st (.slice a lo hi) (lst (cutL l p q)) := fun Q X k => ha _ _ (h1 _ _ (h2 _ _ (by
  show Q (.str ⟨(cutL (l.toArray).toList (clip (⟨l.toArray⟩ : Str).length p) (clip (⟨l.toArray⟩ : Str).length q)).toArray⟩)
  have e1 : clip l.length (p : Int) = p := by unfold clip; rw [if_neg (by omega)]; omega
  have e2 : clip l.length (q : Int) = min q l.length := by unfold clip; rw [if_neg (by omega)]; omega
  rw [st_len, e1, e2]
  have e3 : cutL l p (min q l.length) = cutL l p q := by
    unfold cutL
    by_cases h : q ≤ l.length
    · rw [Nat.min_eq_left h]
    · rw [Nat.min_eq_right (by omega), List.take_of_length_le (by rw [List.length_drop]; omega), List.take_of_length_le (by rw [List.length_drop]; omega)]
  rw [show (l.toArray).toList = l from rfl, e3]; exact k)))
theorem cm_txt {H : AH} {a b : List Nat} : Cm H .eq (lst a) (lst b) (decide (a = b)) := fun Q q => by
  show eqV H (.str _) (.str _) Q
  rw [eqV_str]
  rw [show decide ((⟨a.toArray⟩ : Str) = ⟨b.toArray⟩) = decide (a = b) from by
    rw [decide_eq_decide]
    constructor
    · intro h; have := congrArg Str.cps h; simpa using this
    · rintro rfl; rfl]
  exact q
theorem sb_txt {H : AH} {c : Nat} (h : l[p]? = some c) : Sb H (lst l) (.int p) (lst [c]) := fun Q q => by
  have hp := (List.getElem?_eq_some_iff.mp h).1
  show (match idx (⟨l.toArray⟩ : Str).length (p : Int) with
    | some n => _
    | none => False)
  rw [st_len, idx_nat hp]
  show (match l[p]? with
    | some c => Q (.str ⟨#[c]⟩)
    | none => False)
  rw [h]; exact q
theorem ev_intT {l : List Nat} (ha : Ev C st a (lst l)) (h1 : allDigits l = true) (h2 : 0 < l.length) (h3 : l.length ≤ 100) : Ev C st (.intOf a) (.int (digitsVal l)) := fun Q X q => ha _ _ ⟨h1, by rw [st_len]; exact h2, by rw [st_len]; exact h3, q⟩
theorem ev_lenT {l : List Nat} (ha : Ev C st a (lst l)) : Ev C st (.len a) (.int l.length) := ev_len ha (show some (⟨l.toArray⟩ : Str).length = some l.length by rw [st_len])
end
theorem tw_get : ∀ (l : List Nat) (k : Nat), k < (l.takeWhile dg).length → ∃ c, l[k]? = some c ∧ dg c = true
  | [], k, h => by simp at h
  | c :: l, k, h => by
    rw [List.takeWhile_cons] at h
    cases hc : dg c with
    | false => rw [hc] at h; simp at h
    | true =>
      cases k with
      | zero => exact ⟨c, rfl, hc⟩
      | succ k =>
        rw [hc] at h
        obtain ⟨c', h1, h2⟩ := tw_get l k (by simpa using h)
        exact ⟨c', by simpa using h1, h2⟩
theorem tw_end : ∀ (l : List Nat), (l.takeWhile dg).length = l.length ∨ ∃ c, l[(l.takeWhile dg).length]? = some c ∧ dg c = false
  | [] => .inl rfl
  | c :: l => by
    rw [List.takeWhile_cons]
    cases hc : dg c with
    | false => exact .inr ⟨c, rfl, hc⟩
    | true => exact (tw_end l).imp (fun e => by simpa using e) fun ⟨c', h1, h2⟩ => ⟨c', by simpa using h1, h2⟩
theorem tw_take : ∀ (l : List Nat), l.take (l.takeWhile dg).length = l.takeWhile dg
  | [] => rfl
  | c :: l => by
    rw [List.takeWhile_cons]
    cases hc : dg c with
    | false => rfl
    | true => simpa using tw_take l
noncomputable def figT : E := .and (.cmp (.var 2) (.one .lt (.len (.var 0)))) (.cmp (.sub (.var 0) (.var 2)) (.one .isin (.glob "FIGURES")))
noncomputable def figB : Bl := .cons (.assign (.var 2) (.bin .add (.var 2) (.int 1))) .nil
section
variable {tbl : Tbl} {gl : List (String × V)} {cls : Clss} {d : Nat} {H : AH}
theorem figs_loop {L pre l : List Nat} {w : V} {r : Bl} {Q : Fl → St → Prop} {X : String → St → Prop} (hL : L = pre ++ l) (hf : gl.lookup "FIGURES" = some (.str (Str.ofString "0123456789")))
    (hr : WB (cxN tbl gl cls d) r ⟨[some (lst L), some w, some (.int ((pre.length + (l.takeWhile dg).length : Nat) : Int)), none], H, H⟩ Q X) : ∀ (n k : Nat), k + n = (l.takeWhile dg).length →
    Wh (cxN tbl gl cls d) figT figB r Q X (n + 1) ⟨[some (lst L), some w, some (.int ((pre.length + k : Nat) : Int)), none], H, H⟩
  | 0, k, e => by
    have hk : k = (l.takeWhile dg).length := by omega
    subst hk
    refine wh_end ?_ hr
    rcases tw_end l with h | ⟨c, h1, h2⟩
    · have := ev_and (q := true) (ev_cmp (ev_var (C := cxN tbl gl cls d) (ρ := [some (lst L), some w, some (.int ((pre.length + (l.takeWhile dg).length : Nat) : Int)), none]) (H := H) (B := H) (i := 2) rfl) (ec_one (ev_lenT (ev_var (i := 0) rfl)) cm_lt)) (b := .cmp (.sub (.var 0) (.var 2)) (.one .isin (.glob "FIGURES"))) fun e => by
        rw [hL, List.length_append, h] at e; simp at e
      rw [show (decide (((pre.length + (l.takeWhile dg).length : Nat) : Int) < (L.length : Int)) && true) = false from by rw [hL, List.length_append, h]; simp] at this
      exact this
    · have hg : L[pre.length + (l.takeWhile dg).length]? = some c := by rw [hL, List.getElem?_append_right (by omega), Nat.add_sub_cancel_left]; exact h1
      have := ev_and (ev_cmp (ev_var (C := cxN tbl gl cls d) (ρ := [some (lst L), some w, some (.int ((pre.length + (l.takeWhile dg).length : Nat) : Int)), none]) (H := H) (B := H) (i := 2) rfl) (ec_one (ev_lenT (ev_var (i := 0) rfl)) cm_lt)) fun _ => ev_cmp (ev_sub (ev_var (i := 0) rfl) (ev_var (i := 2) rfl) (sb_txt hg)) (ec_one (op := .isin) (b := dg c) (ev_glob (C := cxN tbl gl cls d) hf) fun _ q => q)
      rw [h2, Bool.and_false] at this
      exact this
  | n + 1, k, e => by
    obtain ⟨c, h1, h2⟩ := tw_get l k (by omega)
    have hg : L[pre.length + k]? = some c := by rw [hL, List.getElem?_append_right (by omega), Nat.add_sub_cancel_left]; exact h1
    have hlt := (List.getElem?_eq_some_iff.mp hg).1
    have := ev_and (ev_cmp (ev_var (C := cxN tbl gl cls d) (ρ := [some (lst L), some w, some (.int ((pre.length + k : Nat) : Int)), none]) (H := H) (B := H) (i := 2) rfl) (ec_one (ev_lenT (ev_var (i := 0) rfl)) cm_lt)) fun _ => ev_cmp (ev_sub (ev_var (i := 0) rfl) (ev_var (i := 2) rfl) (sb_txt hg)) (ec_one (op := .isin) (b := dg c) (ev_glob (C := cxN tbl gl cls d) hf) fun _ q => q)
    rw [h2, Bool.and_true, decide_eq_true (by omega)] at this
    refine wh_step this ?_
    refine w_asg (w := .int ((pre.length + (k + 1) : Nat) : Int)) (ofi (ev_add (ev_var rfl) ev_int) (by omega)) rfl (kw_nil ?_)
    exact figs_loop hL hf hr n (k + 1) (by omega)

structure Has8 (tbl : Tbl) (gl : List (String × V)) : Prop where
  at' : tbl.lookup "symbol_at" = some L08.F_symbol_at
  figs : gl.lookup "FIGURES" = some (.str (Str.ofString "0123456789"))
  mf : gl.lookup "MOST_FIGURES" = some (.int 4)
theorem ev_q {C : Cx} {st : St} : Ev C st (.str (Str.ofString "'")) (lst [39]) := (show Str.ofString "'" = ⟨#[39]⟩ from by decide +kernel) ▸ ev_str
theorem ev_e {C : Cx} {st : St} : Ev C st (.str (Str.ofString "")) (lst []) := (show Str.ofString "" = ⟨#[]⟩ from by decide +kernel) ▸ ev_str
theorem ev_0 {C : Cx} {st : St} : Ev C st (.str (Str.ofString "0")) (lst [48]) := (show Str.ofString "0" = ⟨#[48]⟩ from by decide +kernel) ▸ ev_str
theorem sm_dig {l : List Nat} (h : l.head? ≠ some 39) : sm l = if (l.takeWhile dg = [] ∨ 4 < (l.takeWhile dg).length) ∨ (1 < (l.takeWhile dg).length ∧ l.head? = some 48) then .bad
    else if allDigits (l.takeWhile dg) = true then .ok (.int (digitsVal (l.takeWhile dg))) (l.takeWhile dg).length else .unk := by
  unfold sm
  split
  · exact absurd rfl h
  · rfl
theorem cut_pre (pre l : List Nat) (n : Nat) : cutL (pre ++ l) pre.length (pre.length + n) = l.take n := by
  unfold cutL
  rw [List.drop_left, Nat.add_sub_cancel_left]
theorem symat {L pre l : List Nat} {Q : V → Prop} {X : String → Prop} (h : Has8 tbl gl) (hL : L = pre ++ l) (hok : ∀ v n, sm l = .ok v n → Q (.tup [v, .int ((pre.length + n : Nat) : Int)])) (hbad : sm l = .bad → X "NoBook") (hunk : sm l ≠ .unk) :
    (cxN tbl gl cls (d + 1)).call "symbol_at" [lst L, .int pre.length] H Q X := by
  refine call_of h.at' rfl (by decide) ?_
  have e0 : Ev (cxN tbl gl cls d) ⟨[some (lst L), some (.int pre.length), none, none], H, H⟩ (.cmp (.slice (.var 0) (.var 1) (.bin .add (.var 1) (.int 1))) (.one .eq (.str (Str.ofString "'")))) (.bool (decide (l.take 1 = [39]))) := by
    have := ev_cmp (ev_cut (p := pre.length) (q := pre.length + 1) (ev_var (C := cxN tbl gl cls d) (ρ := [some (lst L), some (.int pre.length), none, none]) (H := H) (B := H) (i := 0) rfl) (ev_var (i := 1) rfl) (ofi (ev_add (ev_var (i := 1) rfl) (ev_int (i := 1))) (by omega)) (by rw [hL]; simp)) (ec_one ev_q cm_txt)
    rw [hL, cut_pre] at this
    rw [hL]; exact this
  by_cases hq : l.head? = some 39
  · obtain ⟨r, rfl⟩ : ∃ r, l = 39 :: r := by
      cases l with
      | nil => cases hq
      | cons c r => cases hq; exact ⟨r, rfl⟩
    refine w_ift e0 ?_
    have hlen : L.length = pre.length + (r.length + 1) := by rw [hL]; simp
    refine w_if (decide ((pre.length : Int) + 1 ≥ (L.length : Int))) (ev_cmp (ev_add (ev_var rfl) ev_int) (ec_one (ev_lenT (ev_var rfl)) cm_ge)) (fun e => ?_) fun e => kn_nil ?_
    · have : r = [] := by
        cases r with
        | nil => rfl
        | cons c r => simp at e; rw [hlen] at e; simp at e; omega
      subst this
      exact x_rz ev_str (hbad rfl)
    · cases r with
      | nil => simp at e; rw [hlen] at e; simp at e
      | cons c r =>
        have hg : L[pre.length + 1]? = some c := by rw [hL, List.getElem?_append_right (by omega), Nat.add_sub_cancel_left]; rfl
        exact r2 (w := .tup [.str ⟨#[c]⟩, .int ((pre.length + 2 : Nat) : Int)]) (ev_tup (evs_cons (ev_sub (ev_var rfl) (ofi (ev_add (ev_var rfl) ev_int) (by omega)) (sb_txt hg)) (evs_cons (ofi (ev_add (ev_var rfl) ev_int) (by omega)) evs_nil)) rfl) rfl (hok _ _ rfl)
  · rw [show decide (l.take 1 = [39]) = false from by
      rw [decide_eq_false_iff_not]
      intro e
      cases l with
      | nil => cases e
      | cons c r => cases e; exact hq rfl] at e0
    refine w_iff e0 (kn_nil ?_)
    refine w_asg (ev_var rfl) rfl ?_
    rw [sm_dig hq] at hok hbad hunk
    refine w_while ((l.takeWhile dg).length + 1) (figs_loop (w := .int pre.length) hL h.figs ?_ _ 0 (by omega))
    have e1 : Ev (cxN tbl gl cls d) ⟨[some (lst L), some (.int pre.length), some (.int ((pre.length + (l.takeWhile dg).length : Nat) : Int)), none], H, H⟩ (.slice (.var 0) (.var 1) (.var 2)) (lst (l.takeWhile dg)) := by
      have := ev_cut (p := pre.length) (q := pre.length + (l.takeWhile dg).length) (ev_var (C := cxN tbl gl cls d) (ρ := [some (lst L), some (.int pre.length), some (.int ((pre.length + (l.takeWhile dg).length : Nat) : Int)), none]) (H := H) (B := H) (i := 0) rfl) (ev_var (i := 1) rfl) (ev_var (i := 2) rfl) (by rw [hL]; simp)
      rw [hL, cut_pre, tw_take] at this
      rw [hL]; exact this
    refine w_asg e1 rfl ?_
    generalize hT : l.takeWhile dg = T at *
    have hh : ∀ c r, T = c :: r → l.head? = some c := fun c r e => by
      cases l with
      | nil => rw [List.takeWhile_nil] at hT; rw [← hT] at e; cases e
      | cons c' l' =>
        rw [List.takeWhile_cons] at hT
        split at hT
        · rw [← hT] at e; cases e; rfl
        · rw [← hT] at e; cases e
    refine w_if (decide (T = []) || (decide ((T.length : Int) > 4) || (decide ((T.length : Int) > 1) && decide (T.take 1 = [48])))) (ev_or (ev_cmp (ev_var rfl) (ec_one ev_e cm_txt)) fun _ => ev_or (ev_cmp (ev_lenT (ev_var rfl)) (ec_one (ev_glob h.mf) cm_gt)) fun _ => ev_and (ev_cmp (ev_lenT (ev_var rfl)) (ec_one ev_int cm_gt)) fun e => ?_) (fun e => ?_) fun e => kn_nil ?_
    · cases T with
      | nil => simp at e
      | cons c r => exact ev_cmp (ev_sub (ev_var rfl) ev_int (sb_txt (p := 0) rfl)) (ec_one ev_0 cm_txt)
    · refine x_rz ev_str (hbad (if_pos ?_))
      simp only [Bool.or_eq_true, Bool.and_eq_true, decide_eq_true_eq] at e
      rcases e with e | e | ⟨e, e'⟩
      · exact .inl (.inl e)
      · exact .inl (.inr (by omega))
      · refine .inr ⟨by omega, ?_⟩
        cases T with
        | nil => simp at e
        | cons c r => cases e'; exact hh _ _ rfl
    · have hn : ¬ ((T = [] ∨ 4 < T.length) ∨ (1 < T.length ∧ l.head? = some 48)) := by
        simp only [Bool.or_eq_false_iff, Bool.and_eq_false_iff, decide_eq_false_iff_not] at e
        obtain ⟨a, b, c⟩ := e
        rintro ((q | q) | ⟨q, q'⟩)
        · exact a q
        · exact b (by omega)
        · cases T with
          | nil => exact a rfl
          | cons x r =>
            rw [hh _ _ rfl] at q'; cases q'
            exact c.elim (fun c => c (by omega)) fun c => c rfl
      rw [if_neg hn] at hok hunk
      by_cases hd : allDigits T = true
      · rw [if_pos hd] at hok
        refine r1 (w := .tup [.int (digitsVal T), .int ((pre.length + T.length : Nat) : Int)]) (ev_tup (evs_cons (ev_intT (ev_var rfl) hd ?_ (by omega)) (evs_cons (ev_var rfl) evs_nil)) rfl) rfl (hok _ _ rfl)
        cases T with
        | nil => exact absurd (.inl (.inl rfl)) hn
        | cons => simp
      · rw [if_neg hd] at hunk; exact absurd rfl hunk
end
end Lib
end

section
set_option autoImplicit false
set_option linter.unusedSimpArgs false
set_option linter.unusedVariables false
namespace Lib
open PySem Mine
/-! law 08: what rows_of reads -/
/-- what follows a symbol -/
noncomputable def nxt (p : List V → List Nat → Option (Option (List (List V)))) (cur : List V) : List Nat → Option (Option (List (List V)))
  | [] => some (some [cur])
  | x :: r => if x = 10 then (p [] r).map (Option.map (cur :: ·)) else if x = 32 then (if r = [] then some none else p cur r) else some none
/-- the rows of a text; the outer none: not known -/
noncomputable def ps : Nat → List V → List Nat → Option (Option (List (List V)))
  | 0, _, _ => none
  | n + 1, cur, l => match l with
    | [] => some (some [cur])
    | c :: l' => match sm (c :: l') with
      | .bad => some none
      | .unk => none
      | .ok v m => nxt (ps n) (cur ++ [v]) ((c :: l').drop m)
section
variable {C : Cx} {ρ : List (Option V)} {H B : AH} {Q : Fl → St → Prop} {X : String → St → Prop} {r : Bl} {e a : E} {b : Nat} {vs : List V} {w : V}
theorem w_appE (he : Ev C ⟨ρ, H, B⟩ e (.ref b)) (hb : H b = some (.list vs)) (hB : B b = none) (hv : Ev C ⟨ρ, H, B⟩ a w) (hl : vs.length < sizeLine) (h : WB C r ⟨ρ, H.upd b (.list (vs ++ [w])), B⟩ Q X) : WB C (.cons (.append e (.pure a)) r) ⟨ρ, H, B⟩ Q X := by
  refine he _ (fun x => X x ⟨ρ, H, B⟩) ?_
  show (match H b with
      | some (.list _) => _
      | _ => False)
  rw [hb]
  refine hv _ _ ?_
  show (match H b with
        | some (.list vs) => _
        | _ => False)
  rw [hb]
  exact ⟨hB, hl, h⟩
theorem w_appO (he : Ev C ⟨ρ, H, B⟩ e (.ref b)) (hb : H b = some (.list vs)) (hB : B b = none) (hl : vs.length < sizeLine) (h : ∀ c, c ≠ b → H c = none → B c = none → WB C r ⟨ρ, (H.upd c (.list [])).upd b (.list (vs ++ [.ref c])), B⟩ Q X) : WB C (.cons (.append e (.list .nil)) r) ⟨ρ, H, B⟩ Q X := by
  refine he _ (fun x => X x ⟨ρ, H, B⟩) ?_
  show (match H b with
      | some (.list _) => _
      | _ => False)
  rw [hb]
  refine ⟨by decide, fun c h1 h2 => ?_⟩
  have h1 : H c = none := h1
  have hc : c ≠ b := fun q => by rw [q, hb] at h1; cases h1
  show (match (H.upd c (.list [])) b with
        | some (.list vs) => _
        | _ => False)
  rw [upd_ne (Ne.symm hc), hb]
  exact ⟨hB, hl, h c hc h1 h2⟩
theorem w_own00 {i : Nat} (hi : Nat.blt i ρ.length = true) (h : ∀ b c, b ≠ c → H b = none → B b = none → H c = none → B c = none → WB C r ⟨ρ.set i (some (.ref c)), (H.upd b (.list [])).upd c (.list [.ref b]), B⟩ Q X) : WB C (.cons (.own i (.list (.cons (.list .nil) .nil))) r) ⟨ρ, H, B⟩ Q X := by
  refine ⟨by decide, fun b h1 h2 => ⟨by show (1 : Nat) ≤ _; decide, fun c h3 h4 => ?_⟩⟩
  have h3 : (H.upd b (.list [])) c = none := h3
  have hc : c ≠ b := of_upd (o' := .list []) h3
  show (match (match putV i (.ref c) ρ with
    | some ρ' => _
    | none => False) with
    | p => p)
  unfold putV; rw [if_pos (Nat.blt_eq.mp hi)]
  exact h b c (Ne.symm hc) h1 h2 (by rw [upd_ne hc] at h3; exact h3) h4
end
end Lib
end

section
set_option autoImplicit false
set_option linter.unusedSimpArgs false
set_option linter.unusedVariables false
namespace Lib
open PySem Mine
noncomputable def RB (H : AH) : List Nat → List (List V) → Prop
  | [], [] => True
  | x :: xs, r :: rs => H x = some (.list r) ∧ RB H xs rs
  | _, _ => False
theorem rb_upd {H : AH} {b : Nat} {o : AO} : ∀ {as : List Nat} {D : List (List V)}, b ∉ as → RB H as D → RB (H.upd b o) as D
  | [], [], _, _ => trivial
  | x :: xs, r :: rs, hb, h => ⟨by rw [upd_ne (fun q => hb (by simp [q]))]; exact h.1, rb_upd (fun q => hb (by simp [q])) h.2⟩
  | [], _ :: _, _, h => h
  | _ :: _, [], _, h => h
theorem rb_snoc {H : AH} {b : Nat} {r : List V} (hb : H b = some (.list r)) : ∀ {as : List Nat} {D : List (List V)}, RB H as D → RB H (as ++ [b]) (D ++ [r])
  | [], [], _ => ⟨hb, trivial⟩
  | x :: xs, s :: rs, h => ⟨h.1, rb_snoc hb h.2⟩
  | [], _ :: _, h => False.elim h
  | _ :: _, [], h => False.elim h
/-- a sign or a number -/
noncomputable def isSI : V → Bool
  | .int _ => true
  | .str _ => true
  | _ => false
theorem sf_si {v : V} {n : Nat} (h : isSI v = true) : Sf (n + 1) v := fun H B => by cases v <;> first | rfl | cases h
theorem dn_si {v : V} {n : Nat} (h : isSI v = true) : Dn n v := by
  cases v with
  | int i => exact .int i
  | str s => exact .str s
  | _ => cases h
theorem rb_frz {H B : AH} {n : Nat} : ∀ {as : List Nat} {D : List (List V)}, RB H as D → (∀ x ∈ as, B x = none) → (∀ r ∈ D, ∀ v ∈ r, isSI v = true) → mapO (frz H B (n + 2)) (as.map V.ref) = some (D.map V.lst)
  | [], [], _, _, _ => rfl
  | x :: xs, r :: rs, h, hB, hs => by
    have ih := rb_frz (n := n) h.2 (fun y hy => hB y (by simp [hy])) fun r hr => hs r (by simp [hr])
    have e : frz H B (n + 2) (.ref x) = some (.lst r) := by
      show (match B x with
        | some _ => some (V.ref x)
        | none => (match H x with
          | some (.list vs) => (mapO (frz H B (n + 1)) vs).map V.lst
          | _ => none)) = _
      rw [hB x (by simp), h.1]
      show (mapO (frz H B (n + 1)) r).map V.lst = _
      rw [sf_all (fun v hv => sf_si (hs r (by simp) v hv))]; rfl
    show (match frz H B (n + 2) (.ref x), mapO (frz H B (n + 2)) (xs.map V.ref) with
      | some x, some xs => some (x :: xs)
      | _, _ => none) = _
    rw [e, ih]; rfl
  | [], _ :: _, h, _, _ => False.elim h
  | _ :: _, [], h, _, _ => False.elim h
structure RS (H H' : AH) (a : Nat) (bs : List Nat) (x : Nat) (D : List (List V)) (cur : List V) : Prop where
  la : H' a = some (.list ((bs ++ [x]).map V.ref))
  rb : RB H' bs D
  lx : H' x = some (.list cur)
  na : a ∉ bs
  nx : x ∉ bs
  ax : a ≠ x
  ba : H a = none
  bx : H x = none
  bb : ∀ z ∈ bs, H z = none
  si : (∀ r ∈ D, ∀ v ∈ r, isSI v = true) ∧ ∀ v ∈ cur, isSI v = true
section
variable {H H' : AH} {a x : Nat} {bs : List Nat} {D : List (List V)} {cur : List V}
theorem RS.frz (h : RS H H' a bs x D cur) : frz H' H 8 (.ref a) = some (.lst ((D ++ [cur]).map V.lst)) := by
  show (match H a with
    | some _ => some (V.ref a)
    | none => (match H' a with
      | some (.list vs) => (mapO (Mine.frz H' H 7) vs).map V.lst
      | _ => none)) = _
  rw [h.ba, h.la]
  show (mapO (Mine.frz H' H 7) ((bs ++ [x]).map V.ref)).map V.lst = _
  rw [rb_frz (n := 5) (rb_snoc h.lx h.rb) (fun z hz => by
    rcases List.mem_append.mp hz with hz | hz
    · exact h.bb z hz
    · rw [List.mem_singleton.mp hz]; exact h.bx) fun r hr => by
    rcases List.mem_append.mp hr with hr | hr
    · exact h.si.1 r hr
    · rw [List.mem_singleton.mp hr]; exact h.si.2]
  rfl
theorem RS.app (h : RS H H' a bs x D cur) {v : V} (hv : isSI v = true) : RS H (H'.upd x (.list (cur ++ [v]))) a bs x D (cur ++ [v]) :=
  ⟨by rw [upd_ne h.ax]; exact h.la, rb_upd h.nx h.rb, upd_eq, h.na, h.nx, h.ax, h.ba, h.bx, h.bb, h.si.1, fun w hw => by
    rcases List.mem_append.mp hw with hw | hw
    · exact h.si.2 w hw
    · rw [List.mem_singleton.mp hw]; exact hv⟩
theorem rb_some {H : AH} : ∀ {as : List Nat} {D : List (List V)}, RB H as D → ∀ x ∈ as, H x ≠ none
  | [], _, _, x, hx => by cases hx
  | y :: xs, r :: rs, h, x, hx => by
    rcases List.mem_cons.mp hx with rfl | hx
    · rw [h.1]; exact nofun
    · exact rb_some h.2 x hx
  | _ :: _, [], h, _, _ => False.elim h
theorem RS.new (h : RS H H' a bs x D cur) {c : Nat} (hc : c ≠ a) (h1 : H' c = none) (h2 : H c = none) : RS H ((H'.upd c (.list [])).upd a (.list ((bs ++ [x]).map V.ref ++ [.ref c]))) a (bs ++ [x]) c (D ++ [cur]) [] := by
  have cx : c ≠ x := fun q => by rw [q, h.lx] at h1; cases h1
  have cb : c ∉ bs := fun q => rb_some h.rb c q h1
  have na : a ∉ bs ++ [x] := fun q => (List.mem_append.mp q).elim h.na fun q => h.ax (List.mem_singleton.mp q)
  have nc : c ∉ bs ++ [x] := fun q => (List.mem_append.mp q).elim cb fun q => cx (List.mem_singleton.mp q)
  refine ⟨by rw [upd_eq, List.map_append (l₂ := [c])]; rfl, rb_upd na (rb_upd nc (rb_snoc h.lx h.rb)), by rw [upd_ne hc, upd_eq], na, nc, Ne.symm hc, h.ba, h2, fun z hz => ?_, fun r hr => ?_, nofun⟩
  · rcases List.mem_append.mp hz with hz | hz
    · exact h.bb z hz
    · rw [List.mem_singleton.mp hz]; exact h.bx
  · rcases List.mem_append.mp hr with hr | hr
    · exact h.si.1 r hr
    · rw [List.mem_singleton.mp hr]; exact h.si.2
theorem RS.last (h : RS H H' a bs x D cur) : Sb H' (.ref a) (.int (-1)) (.ref x) := fun Q q => by
  show (match H' a with
    | some (.dict kvs) => _
    | some (.list vs) => _
    | _ => False)
  rw [h.la]
  show (match idx ((bs ++ [x]).map V.ref).length (-1) with
    | some n => (match ((bs ++ [x]).map V.ref)[n]? with
      | some v => Q v
      | none => False)
    | none => False)
  rw [show idx ((bs ++ [x]).map V.ref).length (-1) = some bs.length from by unfold idx; rw [if_neg (by omega), if_pos (by simp; omega), List.length_map, List.length_append]; congr 1; simp; omega]
  show (match ((bs ++ [x]).map V.ref)[bs.length]? with
      | some v => Q v
      | none => False)
  rw [show ((bs ++ [x]).map V.ref)[bs.length]? = some (.ref x) from by simp]
  exact q
end
end Lib
end

section
set_option autoImplicit false
set_option linter.unusedSimpArgs false
set_option linter.unusedVariables false
namespace Lib
open PySem Mine
theorem ev_nl {C : Cx} {st : St} : Ev C st (.str (Str.ofString "\n")) (lst [10]) := (show Str.ofString "\n" = ⟨#[10]⟩ from by decide +kernel) ▸ ev_str
theorem ev_sp {C : Cx} {st : St} : Ev C st (.str (Str.ofString " ")) (lst [32]) := (show Str.ofString " " = ⟨#[32]⟩ from by decide +kernel) ▸ ev_str
theorem cm_txn {H : AH} {a b : List Nat} : Cm H .ne (lst a) (lst b) (!decide (a = b)) := fun Q q => cm_txt (H := H) (fun r => Q (!r)) q
theorem cm_emp {H : AH} {x : Nat} {cur : List V} (h : H x = some (.list cur)) (hs : ∀ v ∈ cur, isSI v = true) : Cm H .eq (.ref x) (.lst []) cur.isEmpty := fun Q q => by
  show eqV H (.ref x) (.lst []) Q
  obtain ⟨y, h1, h2, _⟩ := Dn.lst (n := 63) (vs := cur) fun v hv => dn_si (hs v hv)
  have e0 : resV H (.ref x) = .lst cur := by
    show (match H x with
      | some (.list vs) => V.lst vs
      | _ => .ref x) = _
    rw [h]
  unfold eqV
  rw [e0, h1, show toD (resV H (.lst [])) = some (.list []) from rfl]
  refine ⟨h2, ?_⟩
  have e3 : PyData.eqv y (.list []) = cur.isEmpty := by
    cases cur with
    | nil =>
      have : y = .list [] := (Option.some.inj (show some (PyData.list []) = some y from h1)).symm
      rw [this]; rfl
    | cons p rs =>
      obtain ⟨ds, g1, g2⟩ := Option.map_eq_some_iff.mp (show (toDs (p :: rs)).map .list = some y from h1)
      subst g2
      rw [toDs] at g1
      split at g1
      · cases g1; rfl
      · cases g1
  rw [e3]; exact q
theorem sm_ok {l : List Nat} {v : V} {m : Nat} (h : sm l = .ok v m) : m ≤ l.length ∧ 0 < m ∧ isSI v = true := by
  by_cases hq : l.head? = some 39
  · cases l with
    | nil => cases hq
    | cons c r =>
      cases hq
      cases r with
      | nil => cases h
      | cons c' r => cases h; exact ⟨by simp, by omega, rfl⟩
  · rw [sm_dig hq] at h
    split at h
    · cases h
    · rename_i hn
      split at h
      · cases h
        refine ⟨?_, ?_, rfl⟩
        · have := congrArg List.length (tw_take l); rw [List.length_take] at this; omega
        · cases e : l.takeWhile dg with
          | nil => exact absurd (.inl (.inl e)) hn
          | cons => simp
      · cases h
theorem sm_nl (l : List Nat) : sm (10 :: l) = .bad := by
  rw [sm_dig (by simp)]
  refine if_pos (.inl (.inl ?_))
  rw [List.takeWhile_cons, show dg 10 = false from by decide +kernel]; rfl
theorem w_asgC {C : Cx} {ρ : List (Option V)} {H B : AH} {Q : Fl → St → Prop} {X : String → St → Prop} {b : Bl} {i : Nat} {f : String} {es : Es} {vs : List V} {P : V → Prop} {R : String → Prop} (he : Evs C ⟨ρ, H, B⟩ es vs) (hi : Nat.blt i ρ.length = true) (hc : ∀ (Q' : V → Prop) (X' : String → Prop), (∀ w, P w → Q' w) → (∀ c, R c → X' c) → C.call f vs H Q' X')
    (h1 : ∀ w, P w → WB C b ⟨ρ.set i (some w), H, B⟩ Q X) (h2 : ∀ c, R c → X c ⟨ρ, H, B⟩) : WB C (.cons (.assign (.var i) (.call f es)) b) ⟨ρ, H, B⟩ Q X := he _ _ (hc _ _ (fun w hw => by
  show (match (match putV i w ρ with
    | some ρ' => _
    | none => False) with
    | p => p)
  unfold putV; rw [if_pos (Nat.blt_eq.mp hi)]; exact h1 w hw) h2)
noncomputable def rowT : E := .cmp (.var 2) (.one .lt (.len (.var 0)))
noncomputable def rowB2 : Bl := (.cons (.ite (.cmp (.var 2) (.one .lt (.len (.var 0)))) (.cons (.ite (.cmp (.sub (.var 0) (.var 2)) (.one .eq (.str (Str.ofString "\n")))) (.cons (.append (.var 1) (.list .nil))
        .nil) (.cons (.ite (.or (.cmp (.sub (.var 0) (.var 2)) (.one .ne (.str (Str.ofString " ")))) (.cmp (.bin .add (.var 2) (.int 1)) (.one .eq (.len (.var 0))))) (.cons (.rz "NoBook" (.str (Str.ofString "no blank and symbol")))
          .nil) .nil)
        .nil))
      (.cons (.assign (.var 2) (.bin .add (.var 2) (.int 1)))
      .nil)) .nil)
    .nil)
noncomputable def rowB : Bl := (.cons (.ite (.and (.cmp (.sub (.var 0) (.var 2)) (.one .eq (.str (Str.ofString "\n")))) (.cmp (.sub (.var 1) (.neg (.int 1))) (.one .eq (.list .nil)))) (.cons (.rz "NoBook" (.str (Str.ofString "an empty rule")))
      .nil) .nil)
    (.cons (.assign (.var 3) (.call "symbol_at" (.cons (.var 0) (.cons (.var 2) .nil))))
    (.cons (.append (.sub (.var 1) (.neg (.int 1))) (.pure (.sub (.var 3) (.int 0))))
    (.cons (.assign (.var 2) (.sub (.var 3) (.int 1)))
    rowB2))))
noncomputable def rowR : Bl := .cons (.ret (.var 1)) .nil
section
variable {tbl : Tbl} {gl : List (String × V)} {cls : Clss} {d : Nat} {H : AH} {a : Nat}
theorem rows_loop {L : List Nat} {Q : V → Prop} {X : String → Prop} (h : Has8 tbl gl) (hz : L.length < 10000000) : ∀ (n : Nat) (l pre : List Nat) (D : List (List V)) (cur : List V) (bs : List Nat) (x : Nat) (H' : AH) (y : Option V), L = pre ++ l → RS H H' a bs x D cur → cur.length ≤ pre.length → bs.length ≤ pre.length →
    (∀ rows, ps n cur l = some (some rows) → Q (.lst ((D ++ rows).map V.lst))) → (ps n cur l = some none → X "NoBook") → ps n cur l ≠ none →
    Wh (cxN tbl gl cls (d + 1)) rowT rowB rowR (PK H Q) (fun x _ => X x) (n + 1) ⟨[some (lst L), some (.ref a), some (.int (pre.length : Nat)), y], H', H⟩
  | 0, l, pre, D, cur, bs, x, H', y, hL, rs, s1, s2, hok, hbad, hunk => absurd rfl hunk
  | n + 1, [], pre, D, cur, bs, x, H', y, hL, rs, s1, s2, hok, hbad, hunk => by
    have e := ev_cmp (ev_var (C := cxN tbl gl cls (d + 1)) (ρ := [some (lst L), some (.ref a), some (.int (pre.length : Nat)), y]) (H := H') (B := H) (i := 2) rfl) (ec_one (ev_lenT (ev_var (i := 0) rfl)) cm_lt)
    rw [show decide ((pre.length : Int) < (L.length : Int)) = false from by rw [hL]; simp] at e
    exact wh_end e (r1 (ev_var rfl) rs.frz (hok _ rfl))
  | n + 1, c :: l, pre, D, cur, bs, x, H', y, hL, rs, s1, s2, hok, hbad, hunk => by
    have hlen : L.length = pre.length + (l.length + 1) := by rw [hL]; simp
    have hsz : sizeLine = 16777216 := rfl
    have e := ev_cmp (ev_var (C := cxN tbl gl cls (d + 1)) (ρ := [some (lst L), some (.ref a), some (.int (pre.length : Nat)), y]) (H := H') (B := H) (i := 2) rfl) (ec_one (ev_lenT (ev_var (i := 0) rfl)) cm_lt)
    rw [show decide ((pre.length : Int) < (L.length : Int)) = true from by rw [hlen]; simp; omega] at e
    refine wh_step e ?_
    have hg : L[pre.length]? = some c := by rw [hL]; simp
    have psb : sm (c :: l) = .bad → ps (n + 1) cur (c :: l) = some none := fun e => by rw [ps, e]
    have psu : sm (c :: l) = .unk → ps (n + 1) cur (c :: l) = none := fun e => by rw [ps, e]
    have pso : ∀ {v m}, sm (c :: l) = .ok v m → ps (n + 1) cur (c :: l) = nxt (ps n) (cur ++ [v]) ((c :: l).drop m) := fun e => by rw [ps, e]
    refine w_if (decide ([c] = [10]) && cur.isEmpty) (ev_and (ev_cmp (ev_sub (ev_var rfl) (ev_var rfl) (sb_txt hg)) (ec_one ev_nl cm_txt)) fun _ => ev_cmp (ev_sub (ev_var rfl) (ev_neg ev_int) rs.last) (ec_one (ev_list evs_nil rfl) (cm_emp rs.lx rs.si.2))) (fun e1 => ?_) fun e1 => kn_nil ?_
    · have : c = 10 := by simp at e1; exact e1.1
      subst this
      exact x_rz ev_str (hbad (psb (sm_nl _)))
    · refine w_asgC (P := fun w => ∃ v m, sm (c :: l) = .ok v m ∧ w = .tup [v, .int ((pre.length + m : Nat) : Int)]) (R := fun k => sm (c :: l) = .bad ∧ k = "NoBook") (evs_cons (ev_var rfl) (evs_cons (ev_var rfl) evs_nil)) rfl (fun Q' X' k1 k2 => symat h hL (fun v m hm => k1 _ ⟨v, m, hm, rfl⟩) (fun hm => k2 _ ⟨hm, rfl⟩) fun hm => hunk (psu hm)) ?_ ?_
      rotate_left
      · rintro k ⟨hm, rfl⟩; exact hbad (psb hm)
      rintro w ⟨v, m, hm, rfl⟩
      rw [pso hm] at hok hbad hunk
      obtain ⟨m1, m2, m3⟩ := sm_ok hm
      refine w_appE (ev_sub (ev_var rfl) (ev_neg ev_int) rs.last) rs.lx rs.bx (ev_sub (ev_var rfl) ev_int (sb_tup (n := 0) rfl)) (by omega) ?_
      have rs' := rs.app m3
      refine w_asg (ev_sub (ev_var rfl) ev_int (sb_tup (n := 1) rfl)) rfl ?_
      have hL' : L = (pre ++ (c :: l).take m) ++ (c :: l).drop m := by rw [List.append_assoc, List.take_append_drop]; exact hL
      have hp : (pre ++ (c :: l).take m).length = pre.length + m := by rw [List.length_append, List.length_take, Nat.min_eq_left m1]
      generalize pre ++ (c :: l).take m = pre' at hL' hp
      generalize (c :: l).drop m = l'' at hok hbad hunk hL'
      have cl : (cur ++ [v]).length ≤ pre'.length := by simp; omega
      rw [← hp]
      cases l'' with
      | nil =>
        have e2 := ev_cmp (ev_var (C := cxN tbl gl cls (d + 1)) (ρ := [some (lst L), some (.ref a), some (.int (pre'.length : Nat)), some (.tup [v, .int (pre'.length : Nat)])]) (H := H'.upd x (.list (cur ++ [v]))) (B := H) (i := 2) rfl) (ec_one (ev_lenT (ev_var (i := 0) rfl)) cm_lt)
        rw [show decide ((pre'.length : Int) < (L.length : Int)) = false from by rw [hL']; simp] at e2
        exact w_iff e2 (kn_nil (kw_nil (wh_end e2 (r1 (ev_var rfl) rs'.frz (hok _ rfl)))))
      | cons c2 r =>
        have hlen' : L.length = pre'.length + (r.length + 1) := by rw [hL']; simp
        have hg2 : L[pre'.length]? = some c2 := by rw [hL']; simp
        have e2 := ev_cmp (ev_var (C := cxN tbl gl cls (d + 1)) (ρ := [some (lst L), some (.ref a), some (.int (pre'.length : Nat)), some (.tup [v, .int (pre'.length : Nat)])]) (H := H'.upd x (.list (cur ++ [v]))) (B := H) (i := 2) rfl) (ec_one (ev_lenT (ev_var (i := 0) rfl)) cm_lt)
        rw [show decide ((pre'.length : Int) < (L.length : Int)) = true from by rw [hlen']; simp; omega] at e2
        refine w_ift e2 ?_
        have lx : (pre' ++ [c2]).length = pre'.length + 1 := by simp
        have hL2 : L = (pre' ++ [c2]) ++ r := by rw [List.append_assoc]; exact hL'
        refine w_if (decide ([c2] = [10])) (ev_cmp (ev_sub (ev_var rfl) (ev_var rfl) (sb_txt hg2)) (ec_one ev_nl cm_txt)) (fun e3 => ?_) fun e3 => ?_
        · have hc2 : c2 = 10 := by simpa using e3
          rw [nxt, if_pos hc2] at hok hbad hunk
          refine w_appO (ev_var rfl) rs'.la rs'.ba (by simp; omega) fun cc hc h1 h2 => kn_nil ?_
          refine w_asg (w := .int ((pre' ++ [c2]).length : Nat)) (ofi (ev_add (ev_var rfl) ev_int) (by omega)) rfl (kn_nil (kw_nil ?_))
          refine rows_loop h hz n r (pre' ++ [c2]) (D ++ [cur ++ [v]]) [] (bs ++ [x]) cc _ _ hL2 (rs'.new hc h1 h2) (Nat.zero_le _) (by simp; omega) (fun rows hr => ?_) (fun hr => hbad (by rw [hr]; rfl)) fun hr => hunk (by rw [hr]; rfl)
          have := hok ((cur ++ [v]) :: rows) (by rw [hr]; rfl)
          rw [List.append_assoc]; exact this
        · have hc2 : ¬ c2 = 10 := by simpa using e3
          rw [nxt, if_neg hc2] at hok hbad hunk
          refine w_if (!decide ([c2] = [32]) || decide ((pre'.length : Int) + 1 = (L.length : Int))) (ev_or (ev_cmp (ev_sub (ev_var rfl) (ev_var rfl) (sb_txt hg2)) (ec_one ev_sp cm_txn)) fun _ => ev_cmp (ev_add (ev_var rfl) ev_int) (ec_one (ev_lenT (ev_var rfl)) cm_eq)) (fun e4 => ?_) fun e4 => kn_nil (kn_nil ?_)
          · refine x_rz ev_str (hbad ?_)
            by_cases h32 : c2 = 32
            · rw [if_pos h32]
              refine if_pos ?_
              cases r with
              | nil => rfl
              | cons => simp [h32] at e4; simp at hlen'; omega
            · rw [if_neg h32]
          · simp only [Bool.or_eq_false_iff, Bool.not_eq_false', decide_eq_true_eq, decide_eq_false_iff_not] at e4
            have h32 : c2 = 32 := by simpa using e4.1
            have hr0 : ¬ r = [] := fun q => by rw [q] at hlen'; simp at hlen'; omega
            rw [if_pos h32, if_neg hr0] at hok hbad hunk
            refine w_asg (w := .int ((pre' ++ [c2]).length : Nat)) (ofi (ev_add (ev_var rfl) ev_int) (by omega)) rfl (kn_nil (kw_nil ?_))
            exact rows_loop h hz n r (pre' ++ [c2]) D (cur ++ [v]) bs x _ _ hL2 rs' (by omega) (by omega) hok hbad hunk
end
end Lib
end

section
set_option autoImplicit false
set_option linter.unusedSimpArgs false
set_option linter.unusedVariables false
namespace Lib
open PySem Mine
structure Has8b (tbl : Tbl) (gl : List (String × V)) : Prop extends Has8 tbl gl, Has3 tbl gl where
  rows : tbl.lookup "rows_of" = some L08.F_rows_of
  read : tbl.lookup "read" = some L08.F_read
section
variable {tbl : Tbl} {gl : List (String × V)} {cls : Clss} {d : Nat} {H : AH}
theorem rows_of {L : List Nat} {n : Nat} {Q : V → Prop} {X : String → Prop} (h : Has8b tbl gl) (hz : L.length < 10000000) (hok : ∀ rows, ps n [] L = some (some rows) → Q (.lst (rows.map V.lst))) (hbad : ps n [] L = some none → X "NoBook") (hunk : ps n [] L ≠ none) :
    (cxN tbl gl cls (d + 2)).call "rows_of" [lst L] H Q X := by
  refine call_of h.rows rfl (by decide) ?_
  refine w_own00 rfl fun b c hbc h1 h2 h3 h4 => ?_
  refine w_asg ev_int rfl ?_
  refine w_while (n + 1) (rows_loop (a := c) (H := H) h.toHas8 hz n L [] [] [] [] b _ _ rfl ⟨upd_eq, trivial, by rw [upd_ne hbc, upd_eq], nofun, nofun, Ne.symm hbc, h3, h1, nofun, nofun, nofun⟩ (Nat.le_refl _) (Nat.le_refl _) hok hbad hunk)
/-- rows as need_book's book -/
noncomputable def bkV (rows : List (List V)) : V := .tup [.lst (rows.dropLast.map V.tup), .lst (rows.getLast?.getD [])]
theorem ps_ne : ∀ {n : Nat} {cur : List V} {l : List Nat} {rows : List (List V)}, ps n cur l = some (some rows) → rows ≠ []
  | 0, _, _, _, h => by cases h
  | n + 1, cur, [], rows, h => by cases h; exact nofun
  | n + 1, cur, c :: l, rows, h => by
    rw [ps] at h
    split at h
    · cases h
    · cases h
    · rename_i v m hm
      unfold nxt at h
      split at h
      · cases h; exact nofun
      · split at h
        · obtain ⟨o, h1, h2⟩ := Option.map_eq_some_iff.mp h
          obtain ⟨r, h3, h4⟩ := Option.map_eq_some_iff.mp h2
          rw [← h4]; exact nofun
        · split at h
          · split at h
            · cases h
            · exact ps_ne h
          · cases h
theorem ev_init {C : Cx} {st : St} {a : E} {l : List V} {w : V} (ha : Ev C st a (.lst (l ++ [w]))) : Ev C st (.slice a .none (.neg (.int 1))) (.lst l) := fun Q X q => ha _ _ (by
  show Q (.lst (cutL (l ++ [w]) 0 (clip (l ++ [w]).length (-1))))
  have e : clip (l ++ [w]).length (-1) = l.length := by unfold clip; rw [if_pos (by omega)]; simp; omega
  rw [e]; unfold cutL; rw [List.drop_zero, Nat.sub_zero, List.take_left]; exact q)
theorem sb_last {H : AH} {l : List V} {w : V} : Sb H (.lst (l ++ [w])) (.int (-1)) w := fun Q q => by
  show (match idx (l ++ [w]).length (-1) with
    | some n => (match (l ++ [w])[n]? with
      | some v => Q v
      | none => False)
    | none => False)
  rw [show idx (l ++ [w]).length (-1) = some l.length from by unfold idx; rw [if_neg (by omega), if_pos (by simp; omega), List.length_append]; congr 1; simp; omega]
  show (match (l ++ [w])[l.length]? with
      | some v => Q v
      | none => False)
  rw [show (l ++ [w])[l.length]? = some w from by simp]
  exact q
theorem x_retC {C : Cx} {ρ : List (Option V)} {H H' B : AH} {Q : V → Prop} {X : String → St → Prop} {b : Bl} {f : String} {es : Es} {vs : List V} (he : Evs C ⟨ρ, H', B⟩ es vs) (hc : ∀ Q' : V → Prop, (∀ w w', frz H' H 8 w = some w' → Q w' → Q' w) → C.call f vs H' Q' (fun x => X x ⟨ρ, H', B⟩)) : WB C (.cons (.ret (.call f es)) b) ⟨ρ, H', B⟩ (PK H Q) X :=
  he _ _ (hc _ fun w w' h1 h2 => pk_of h1 h2)
theorem read_of {L : List Nat} {n : Nat} {Q : V → Prop} {X : String → Prop} (h : Has8b tbl gl) (hz : L.length < 10000000) (hr : ∀ rows, ps n [] L = some (some rows) → rows.length ≤ 10000000) (hok : ∀ rows, ps n [] L = some (some rows) → ∀ Q' : V → Prop, (∀ w w', frz H H 8 w = some w' → Q w' → Q' w) → (cxN tbl gl cls (d + 4)).call "need_book" [bkV rows] H Q' X) (hbad : ps n [] L = some none → X "NoBook") (hunk : ps n [] L ≠ none) :
    (cxN tbl gl cls (d + 5)).call "read" [lst L] H Q X := by
  refine call_of h.read rfl (by decide) ?_
  refine w_iff (ev_not (b := true) (ev_isi (ev_var rfl) rfl)) (kn_nil ?_)
  refine w_asgC (P := fun w => ∃ rows, ps n [] L = some (some rows) ∧ w = .lst (rows.map V.lst)) (R := fun k => ps n [] L = some none ∧ k = "NoBook") (evs_cons (ev_var rfl) evs_nil) rfl (fun Q' X' k1 k2 => rows_of (d := d + 2) h hz (fun rows hr => k1 _ ⟨rows, hr, rfl⟩) (fun hr => k2 _ ⟨hr, rfl⟩) hunk) ?_ ?_
  rotate_left
  · rintro k ⟨hm, rfl⟩; exact hbad hm
  rintro w ⟨rows, hp, rfl⟩
  have hs : sizeLine = 16777216 := rfl
  have hn := ps_ne hp
  have hl := hr rows hp
  have hb := hok rows hp
  obtain ⟨D, cur, rfl⟩ : ∃ D cur, rows = D ++ [cur] := ⟨rows.dropLast, rows.getLast hn, (List.dropLast_concat_getLast hn).symm⟩
  rw [show bkV (D ++ [cur]) = .tup [.lst (D.map V.tup), .lst cur] from by unfold bkV; rw [List.dropLast_concat, List.getLast?_concat]; rfl] at hb
  rw [List.map_append]
  refine x_retC (evs_cons (ev_tup (evs_cons (ev_comp (v := V.lst) (g := V.tup) (r := D) (ei_seq (ev_init (ev_var rfl)) rfl) ?_ (show 2 < 3 by omega) fun x hx => ev_tupOf (ev_var rfl) rfl) (evs_cons (ev_sub (ev_var rfl) (ev_neg ev_int) sb_last) evs_nil)) rfl) evs_nil) hb
  simp at hl; omega
end
end Lib
end

section
set_option autoImplicit false
set_option linter.unusedSimpArgs false
set_option linter.unusedVariables false
namespace Lib
open PySem Mine
section
variable {tbl : Tbl} {gl : List (String × V)} {cls : Clss} {d : Nat} {H : AH}
structure Has8c (tbl : Tbl) (gl : List (String × V)) : Prop extends Has8b tbl gl where
  refused : tbl.lookup "_law_refused" = some L08.F_law_refused
/-- read refuses it -/
noncomputable def Bad8 (tbl : Tbl) (gl : List (String × V)) (cls : Clss) (w : V) : Prop := ∀ (d : Nat) (H : AH), Cr (cxN tbl gl cls (d + 5)) "read" [w] H "NoBook"
theorem bad_notext {w : V} (h : Has8b tbl gl) (hp : pl w = true) (hs : ∀ s, w ≠ .str s) : Bad8 tbl gl cls w := fun d H => cr_of h.read rfl (by decide) fun Q X q => by
  have e1 : isT H .str w = some false := by rw [ist hp]; cases w <;> first | exact absurd rfl (hs _) | rfl | cases hp
  exact w_ift (ev_not (ev_isi (ev_var rfl) e1)) (x_rz ev_str q)
/-- a text that does not read, or reads to no book -/
theorem bad_text {L : List Nat} (n : Nat) (h : Has8b tbl gl) (hz : L.length < 10000000) (hunk : ps n [] L ≠ none) (hr : ∀ rows, ps n [] L = some (some rows) → rows.length ≤ 10000000 ∧ Bad tbl gl cls (bkV rows)) : Bad8 tbl gl cls (lst L) := fun d H Q X q =>
  read_of h hz (fun rows hp => (hr rows hp).1) (fun rows hp Q' _ => (hr rows hp).2 d H Q' X q) (fun _ => q) hunk
theorem ca_refused8 {w : V} (h : Has8c tbl gl) (hb : Bad8 tbl gl cls w) : Ca (cxN tbl gl cls (d + 6)) "_law_refused" [w] H (.bool true) := ca_of h.refused rfl (by decide) fun Q X q => by
  refine w_try0 (er_call (evs_cons (ev_var rfl) evs_nil) (hb d H)) (by decide) ?_
  refine w_try1 (er_call (evs_cons (ev_var rfl) evs_nil) (hb d H)) (by decide) rfl ?_
  refine w_ret (w := .bool true) (ev_isx (c := "NoBook") (ev_var rfl) (by decide)) ?_
  exact (show PK H Q (.ret (.bool true)) ⟨[], H, H⟩ from pk_of rfl q)
end
end Lib
end

section
set_option autoImplicit false
set_option linter.unusedSimpArgs false
set_option linter.unusedVariables false
namespace Lib
open PySem Mine
/-! law 08, plain: which texts read to a book -/
theorem dg_eq (c : Nat) : dg c = decide (c ∈ (Str.ofString "0123456789").cps.toList) := PySem.StrLaws.found_one _ c
theorem dg_mem {c : Nat} (h : dg c = true) : 48 ≤ c ∧ c ≤ 57 := by
  rw [dg_eq, decide_eq_true_eq, show (Str.ofString "0123456789").cps.toList = [48, 49, 50, 51, 52, 53, 54, 55, 56, 57] from by decide +kernel] at h
  simp at h; omega
theorem tw_mem : ∀ (l : List Nat) (c : Nat), c ∈ l.takeWhile dg → dg c = true
  | [], c, h => by cases h
  | x :: l, c, h => by
    rw [List.takeWhile_cons] at h
    split at h
    · rcases List.mem_cons.mp h with rfl | h
      · assumption
      · exact tw_mem l c h
    · cases h
theorem tw_all (l : List Nat) : allDigits (l.takeWhile dg) = true := by
  unfold allDigits
  rw [List.all_eq_true]
  intro c hc
  have := dg_mem (tw_mem l c hc)
  simp; omega
theorem sm_unk (l : List Nat) : sm l ≠ .unk := by
  by_cases h : l.head? = some 39
  · cases l with
    | nil => cases h
    | cons c r =>
      cases h
      cases r <;> exact nofun
  · rw [sm_dig h]
    split
    · exact nofun
    · rw [if_pos (tw_all l)]; exact nofun
noncomputable def Pr (K : Option (List (List V)) → Prop) (D : List (List V)) (cur : List V) (l : List Nat) : Prop := ∃ n o, ps n cur l = some o ∧ K (o.map (D ++ ·))
theorem ps_ok {n m : Nat} {cur : List V} {l : List Nat} {v : V} (hl : l ≠ []) (hs : sm l = .ok v m) : ps (n + 1) cur l = nxt (ps n) (cur ++ [v]) (l.drop m) := by
  cases l with
  | nil => exact absurd rfl hl
  | cons c l => rw [ps, hs]
theorem ps_bad {n : Nat} {cur : List V} {l : List Nat} (hl : l ≠ []) (hs : sm l = .bad) : ps (n + 1) cur l = some none := by
  cases l with
  | nil => exact absurd rfl hl
  | cons c l => rw [ps, hs]
/-- a text that is one symbol, whatever other than a figure stands behind -/
noncomputable def Tk (t : List Nat) (v : V) : Prop := t ≠ [] ∧ ∀ Z : List Nat, (∀ x ∈ Z.head?, dg x = false) → sm (t ++ Z) = .ok v t.length
section
variable {K : Option (List (List V)) → Prop} {D : List (List V)} {cur : List V} {l r t : List Nat} {v : V} {x : Nat}
theorem pr_nil (h : K (some (D ++ [cur]))) : Pr K D cur [] := ⟨1, _, rfl, h⟩
theorem pr_bad (hl : l ≠ []) (hs : sm l = .bad) (h : K none) : Pr K D cur l := ⟨1, none, ps_bad hl hs, h⟩
theorem ap_ne (h : t ≠ []) : t ++ l ≠ [] := fun e => h (List.append_eq_nil_iff.mp e).1
theorem d32 : dg 32 = false := by decide +kernel
theorem d10 : dg 10 = false := by decide +kernel
theorem pr_sp (ht : Tk t v) (hr : r ≠ []) (h : Pr K D (cur ++ [v]) r) : Pr K D cur (t ++ 32 :: r) := by
  obtain ⟨n, o, h1, h2⟩ := h
  refine ⟨n + 1, o, ?_, h2⟩
  rw [ps_ok (ap_ne ht.1) (ht.2 _ fun x hx => by cases hx; exact d32), List.drop_left]
  rw [nxt]
  rw [if_neg (by omega), if_pos rfl, if_neg hr]; exact h1
theorem pr_spe (ht : Tk t v) (h : K none) : Pr K D cur (t ++ [32]) := by
  refine ⟨1, none, ?_, h⟩
  rw [ps_ok (n := 0) (ap_ne ht.1) (ht.2 _ fun x hx => by cases hx; exact d32), List.drop_left]
  rfl
theorem pr_nl (ht : Tk t v) (h : Pr K (D ++ [cur ++ [v]]) [] r) : Pr K D cur (t ++ 10 :: r) := by
  obtain ⟨n, o, h1, h2⟩ := h
  refine ⟨n + 1, o.map ((cur ++ [v]) :: ·), ?_, ?_⟩
  · rw [ps_ok (ap_ne ht.1) (ht.2 _ fun x hx => by cases hx; exact d10), List.drop_left]
    rw [nxt]
    rw [if_pos rfl, h1]; rfl
  · rw [Option.map_map]
    rw [show ((fun x => D ++ x) ∘ fun x => (cur ++ [v]) :: x) = fun x => (D ++ [cur ++ [v]]) ++ x from by funext x; simp]
    exact h2
theorem pr_end (ht : Tk t v) (h : K (some (D ++ [cur ++ [v]]))) : Pr K D cur t := by
  refine ⟨1, some [cur ++ [v]], ?_, h⟩
  have := ht.2 [] nofun
  rw [List.append_nil] at this
  rw [ps_ok (n := 0) ht.1 this, List.drop_length]
  rfl
theorem pr_odS (ht : t ≠ []) (hs : sm (t ++ x :: r) = .ok v t.length) (h1 : x ≠ 10) (h2 : x ≠ 32) (h : K none) : Pr K D cur (t ++ x :: r) := by
  refine ⟨1, none, ?_, h⟩
  rw [ps_ok (n := 0) (ap_ne ht) hs, List.drop_left]
  rw [nxt]
  rw [if_neg h1, if_neg h2]
theorem pr_odd (ht : Tk t v) (hx : dg x = false) (h1 : x ≠ 10) (h2 : x ≠ 32) (h : K none) : Pr K D cur (t ++ x :: r) := pr_odS ht.1 (ht.2 _ fun y hy => by cases hy; exact hx) h1 h2 h
theorem tk_let (c : Nat) : Tk [39, c] (.str ⟨#[c]⟩) := ⟨nofun, fun _ _ => rfl⟩
theorem tw_app {Z : List Nat} (h : t.all dg = true) (hZ : ∀ x ∈ Z.head?, dg x = false) : (t ++ Z).takeWhile dg = t := by
  rw [List.takeWhile_append_of_pos (List.all_eq_true.mp h)]
  cases Z with
  | nil => simp
  | cons c Z => rw [List.takeWhile_cons, hZ c rfl]; simp
theorem hd_dig {Z : List Nat} (h : t.all dg = true) (hn : t ≠ []) : (t ++ Z).head? ≠ some 39 := by
  cases t with
  | nil => exact absurd rfl hn
  | cons c t =>
    intro e
    cases e
    rw [List.all_cons, show dg 39 = false from by decide +kernel] at h
    cases h
theorem tk_num (h : t.all dg = true) (hn : t ≠ []) (h4 : t.length ≤ 4) (h0 : 1 < t.length → t.head? ≠ some 48) : Tk t (.int (digitsVal t)) := by
  refine ⟨hn, fun Z hZ => ?_⟩
  have e := tw_app h hZ
  have ha := tw_all (t ++ Z)
  rw [sm_dig (hd_dig h hn)]
  rw [e] at ha ⊢
  rw [if_neg, if_pos ha]
  rintro ((q | q) | ⟨q, q'⟩)
  · exact hn q
  · omega
  · refine h0 q ?_
    cases t with
    | nil => exact absurd rfl hn
    | cons c t => exact q'
theorem sm_nought {t Z : List Nat} (h : t.all dg = true) (hn : 1 < t.length) (h0 : t.head? = some 48) (hZ : ∀ x ∈ Z.head?, dg x = false) : sm (t ++ Z) = .bad := by
  have hn' : t ≠ [] := fun e => by rw [e] at hn; simp at hn
  rw [sm_dig (hd_dig h hn'), tw_app h hZ, if_pos]
  refine .inr ⟨hn, ?_⟩
  cases t with
  | nil => exact absurd rfl hn'
  | cons c t => exact h0
theorem sm_no (h : dg x = false) (h39 : x ≠ 39) : sm (x :: l) = .bad := by
  rw [sm_dig (by intro e; cases e; exact h39 rfl), List.takeWhile_cons, h]
  rfl
/-- the figures of a small number -/
noncomputable def dgs (k : Nat) : List Nat := if k < 10 then [48 + k] else [49, 38 + k]
theorem dgs_ok : ∀ k < 16, (dgs k).all dg = true ∧ dgs k ≠ [] ∧ (dgs k).length ≤ 4 ∧ (1 < (dgs k).length → (dgs k).head? ≠ some 48) ∧ digitsVal (dgs k) = k ∧ (dgs k).length ≤ 2 := by decide +kernel
theorem tk_dgs {k : Nat} (h : k < 16) : Tk (dgs k) (.int k) := by
  obtain ⟨a, b, c, d, e, _⟩ := dgs_ok k h
  have := tk_num a b c d
  rw [e] at this; exact this
noncomputable def tk : Sy → List Nat
  | .ch c => [39, c]
  | .ru k => dgs k
theorem tk_sy {s : Sy} {n : Nat} (h : s.ok n) (hn : n ≤ 16) : Tk (tk s) s.v := by
  cases s with
  | ch c => exact tk_let c
  | ru k => exact tk_dgs (Nat.lt_of_lt_of_le h hn)
/-! all of it reads, to something that begins as it began -/
theorem ps_tot : ∀ (n : Nat) (l : List Nat) (cur : List V), l.length < n → ∃ o, ps n cur l = some o ∧ ∀ rows, o = some rows → ∃ s r, rows = (cur ++ s) :: r
  | 0, l, cur, h => by omega
  | n + 1, [], cur, h => ⟨some [cur], rfl, fun rows e => ⟨[], [], by cases e; simp⟩⟩
  | n + 1, c :: l, cur, h => by
    cases hs : sm (c :: l) with
    | bad => exact ⟨none, ps_bad (List.cons_ne_nil _ _) hs, nofun⟩
    | unk => exact absurd hs (sm_unk _)
    | ok v m =>
      rw [ps_ok (List.cons_ne_nil _ _) hs]
      obtain ⟨m1, m2, m3⟩ := sm_ok hs
      have hd : ((c :: l).drop m).length < n + 1 - m + 1 := by rw [List.length_drop]; simp at h ⊢; omega
      generalize (c :: l).drop m = l' at hd
      cases l' with
      | nil => exact ⟨_, rfl, fun rows e => ⟨[v], [], by cases e; rfl⟩⟩
      | cons x r =>
        have hr : r.length < n := by simp at hd; omega
        rw [nxt]
        by_cases h1 : x = 10
        · rw [if_pos h1]
          obtain ⟨o, e1, e2⟩ := ps_tot n r [] hr
          rw [e1]
          refine ⟨_, rfl, fun rows e => ?_⟩
          obtain ⟨z, _, rfl⟩ := Option.map_eq_some_iff.mp e
          exact ⟨[v], z, rfl⟩
        · rw [if_neg h1]
          by_cases h2 : x = 32
          · rw [if_pos h2]
            by_cases h3 : r = []
            · rw [if_pos h3]; exact ⟨_, rfl, nofun⟩
            · rw [if_neg h3]
              obtain ⟨o, e1, e2⟩ := ps_tot n r (cur ++ [v]) hr
              refine ⟨o, e1, fun rows e => ?_⟩
              obtain ⟨s, z, e3⟩ := e2 rows e
              exact ⟨v :: s, z, by rw [e3]; simp⟩
          · rw [if_neg h2]; exact ⟨_, rfl, nofun⟩
end
/-- what need_book takes -/
noncomputable def OkRows (rows : List (List V)) : Prop := ∃ D cur, rows = D ++ [cur] ∧ D.length ≤ 600 ∧ cur.length ≤ 2000 ∧ okRs 0 (D.map V.tup) = true ∧ cur.all (okS D.length) = true
noncomputable def Nk (o : Option (List (List V))) : Prop := ∀ rows, o = some rows → ¬ OkRows rows
theorem nk_none : Nk none := nofun
theorem okRs_at : ∀ (D : List V) (k : Nat) (v : V) (r : List V), okRs k (D ++ v :: r) = true → okR (k + D.length) v = true
  | [], k, v, r, h => ((Bool.and_eq_true _ _).mp h).1
  | u :: D, k, v, r, h => by
    have := okRs_at D (k + 1) v r ((Bool.and_eq_true _ _).mp h).2
    rw [show k + (u :: D).length = k + 1 + D.length from by simp; omega]; exact this
theorem okR_all {n : Nat} {vs : List V} (h : okR n (.tup vs) = true) : vs.length = 2 ∧ ∀ v ∈ vs, okS n v = true := by
  match vs, h with
  | [a, b], h =>
    obtain ⟨h1, h2⟩ := (Bool.and_eq_true _ _).mp h
    exact ⟨rfl, fun v hv => by rcases List.mem_cons.mp hv with rfl | hv; exact h1; rw [List.mem_singleton.mp hv]; exact h2⟩
/-- each row is looked at against the rules ahead of it; each but the last is a pair -/
theorem ok_at {D : List (List V)} {c : List V} {r : List (List V)} (h : OkRows (D ++ c :: r)) : (∀ v ∈ c, okS D.length v = true) ∧ (r ≠ [] → c.length = 2) := by
  obtain ⟨E, z, e, h1, h2, h3, h4⟩ := h
  rcases r.eq_nil_or_concat with rfl | ⟨r', y, rfl⟩
  · obtain ⟨rfl, e2⟩ := List.append_inj' e rfl
    cases e2
    exact ⟨List.all_eq_true.mp h4, fun q => absurd rfl q⟩
  · rw [show D ++ c :: r'.concat y = (D ++ c :: r') ++ [y] from by simp] at e
    obtain ⟨rfl, _⟩ := List.append_inj' e rfl
    rw [List.map_append] at h3
    have := okRs_at _ _ _ _ h3
    rw [List.length_map, Nat.zero_add] at this
    exact ⟨(okR_all this).2, fun _ => (okR_all this).1⟩
section
variable {D : List (List V)} {cur : List V} {l r t : List Nat} {v : V} {x : Nat}
/-- lost, whatever follows -/
theorem pr_lost (h : ∀ s r, ¬ OkRows (D ++ (cur ++ s) :: r)) : Pr Nk D cur l := by
  obtain ⟨o, e1, e2⟩ := ps_tot (l.length + 1) l cur (Nat.lt_succ_self _)
  refine ⟨_, o, e1, fun rows e => ?_⟩
  obtain ⟨z, hz, rfl⟩ := Option.map_eq_some_iff.mp e
  obtain ⟨s, r, rfl⟩ := e2 z hz
  exact h s r
theorem lost_sym (hv : v ∈ cur) (h : okS D.length v = false) : Pr Nk D cur l := pr_lost fun s r q => by
  have := (ok_at q).1 v (List.mem_append_left _ hv)
  rw [h] at this; cases this
theorem lost_len {c : List V} (h : c.length ≠ 2) : Pr Nk (D ++ [c]) cur l := pr_lost fun s r q => by
  rw [List.append_assoc] at q
  exact h ((ok_at (D := D) (c := c) (r := (cur ++ s) :: r) q).2 nofun)
theorem lost_row {c : List V} (hv : v ∈ c) (h : okS D.length v = false) : Pr Nk (D ++ [c]) cur l := pr_lost fun s r q => by
  rw [List.append_assoc] at q
  have := (ok_at (D := D) (c := c) (r := (cur ++ s) :: r) q).1 v hv
  rw [h] at this; cases this
end
end Lib
end

section
set_option autoImplicit false
set_option linter.unusedSimpArgs false
set_option linter.unusedVariables false
namespace Lib
open PySem Mine
/-! law 08, plain: the lines that are asked for -/
noncomputable def jn (s : Nat) : List (List Nat) → List Nat
  | [] => []
  | [t] => t
  | t :: u :: r => t ++ s :: jn s (u :: r)
theorem jn_cons {s : Nat} {t : List Nat} : ∀ {r : List (List Nat)}, r ≠ [] → jn s (t :: r) = t ++ s :: jn s r
  | [], h => absurd rfl h
  | _ :: _, _ => rfl
theorem jn_join (c : Nat) : ∀ L : List (List Nat), Str.join ⟨#[c]⟩ (L.map S1) = S1 (jn c L)
  | [] => rfl
  | [l] => rfl
  | l :: m :: L => by
    show S1 l ++ ⟨#[c]⟩ ++ Str.join ⟨#[c]⟩ (S1 m :: L.map S1) = _
    have := jn_join c (m :: L)
    simp only [List.map_cons] at this
    rw [this]
    apply Str.ext'
    simp [S1, Str.cps_append, jn]
theorem jn_snoc {s : Nat} {t z : List Nat} : ∀ {A : List (List Nat)}, jn s (A ++ [t ++ z]) = jn s (A ++ [t]) ++ z
  | [] => rfl
  | a :: A => by
    rw [List.cons_append, List.cons_append, jn_cons (by simp), jn_cons (by simp), jn_snoc]; simp
theorem jn_len {s m : Nat} : ∀ {A : List (List Nat)}, (∀ t ∈ A, t.length ≤ m) → (jn s A).length ≤ A.length * (m + 1)
  | [], _ => Nat.zero_le _
  | [t], h => by have := h t (by simp); simp [jn]; omega
  | t :: u :: r, h => by
    have h1 := h t (by simp)
    have h2 := jn_len (s := s) (A := u :: r) fun x hx => h x (by simp at hx ⊢; exact .inr hx)
    simp only [jn, List.length_append, List.length_cons] at h2 ⊢
    rw [Nat.add_mul (r.length + 1) 1]; omega
noncomputable def line (R : List (List (List Nat))) : List Nat := jn 10 (R.map (jn 32))
noncomputable def SmR (r : List (List Nat)) : Prop := r.length ≤ 20 ∧ ∀ t ∈ r, t.length ≤ 20
noncomputable def Sml (R : List (List (List Nat))) : Prop := R.length ≤ 20 ∧ ∀ r ∈ R, SmR r
theorem smr_len {r : List (List Nat)} (h : SmR r) : (jn 32 r).length ≤ 420 := by
  have := jn_len (s := 32) h.2
  have := Nat.mul_le_mul_right 21 h.1
  omega
theorem sml_len {R : List (List (List Nat))} (h : Sml R) : (line R).length ≤ 9000 := by
  have := jn_len (s := 10) (m := 420) (A := R.map (jn 32)) fun t ht => by
    obtain ⟨r, hr, rfl⟩ := List.mem_map.mp ht
    exact smr_len (h.2 r hr)
  have h2 := Nat.mul_le_mul_right 421 h.1
  rw [List.length_map] at this
  unfold line
  omega
noncomputable def rtx (p : Rl) : List (List Nat) := [tk p.1, tk p.2]
noncomputable def vv (p : Rl) : List V := [p.1.v, p.2.v]
/-- symbols that are told in full by their texts -/
noncomputable def Tks (s : Sy) : Prop := Tk (tk s) s.v ∧ (tk s).length ≤ 2
theorem tks_ok {s : Sy} {n : Nat} (h : s.ok n) (hn : n ≤ 16) : Tks s := by
  refine ⟨tk_sy h hn, ?_⟩
  cases s with
  | ch c => exact Nat.le_refl 2
  | ru k => exact (dgs_ok k (Nat.lt_of_lt_of_le h hn)).2.2.2.2.2
section
variable {K : Option (List (List V)) → Prop} {D : List (List V)} {cur : List V} {Z : List Nat} {R : List (List (List Nat))}
theorem pr_pairs (hR : R ≠ []) : ∀ {rs : List Rl} {D : List (List V)}, (∀ p ∈ rs, Tks p.1 ∧ Tks p.2) → Pr K (D ++ rs.map vv) [] (line R ++ Z) → Pr K D [] (line (rs.map rtx ++ R) ++ Z)
  | [], D, _, h => by rw [List.map_nil, List.append_nil] at h; exact h
  | p :: rs, D, hp, h => by
    obtain ⟨h1, h2⟩ := hp p (by simp)
    have e : line ((p :: rs).map rtx ++ R) ++ Z = tk p.1 ++ 32 :: (tk p.2 ++ 10 :: (line (rs.map rtx ++ R) ++ Z)) := by
      unfold line
      rw [List.map_cons, List.cons_append, List.map_cons, jn_cons (by simp [hR])]
      show (tk p.1 ++ 32 :: tk p.2) ++ _ ++ Z = _
      simp
    rw [e]
    refine pr_sp h1.1 (ap_ne h2.1.1) (pr_nl h2.1 (pr_pairs hR (fun q hq => hp q (by simp [hq])) ?_))
    rw [List.append_assoc]; exact h
theorem pr_row {us : List (List Nat)} (hu : us ≠ []) (hz : jn 32 us ++ Z ≠ []) : ∀ {ts : List Sy} {cur : List V}, (∀ s ∈ ts, Tks s) → Pr K D (cur ++ ts.map Sy.v) (jn 32 us ++ Z) → Pr K D cur (jn 32 (ts.map tk ++ us) ++ Z)
  | [], cur, _, h => by rw [List.map_nil, List.append_nil] at h; exact h
  | s :: ts, cur, hp, h => by
    have e : jn 32 ((s :: ts).map tk ++ us) ++ Z = tk s ++ 32 :: (jn 32 (ts.map tk ++ us) ++ Z) := by
      rw [List.map_cons, List.cons_append, jn_cons (by simp [hu])]; simp
    rw [e]
    refine pr_sp (hp s (by simp)).1 ?_ (pr_row hu hz (fun q hq => hp q (by simp [hq])) (by rw [List.append_assoc]; exact h))
    cases ts with
    | nil => exact hz
    | cons t ts =>
      rw [List.map_cons, List.cons_append, jn_cons (by simp [hu])]
      exact fun e => by simp at e
end
/-! all the lines that are refused -/
noncomputable def R0 (rs : List Rl) (row : List Sy) : List (List (List Nat)) := rs.map rtx ++ [row.map tk]
structure Gd (rs : List Rl) (row : List Sy) : Prop where
  r : ∀ p ∈ rs, Tks p.1 ∧ Tks p.2
  w : ∀ s ∈ row, Tks s
section
variable {K : Option (List (List V)) → Prop} {rs : List Rl} {row : List Sy} {Z : List Nat}
theorem pr_tail (g : Gd rs row) (h0 : row = [] → Pr K (rs.map vv) [] Z) (h1 : ∀ ts s, row = ts ++ [s] → Tk (tk s) s.v → Pr K (rs.map vv) (ts.map Sy.v) (tk s ++ Z)) : Pr K [] [] (line (R0 rs row) ++ Z) := by
  refine pr_pairs (by simp) g.r ?_
  show Pr K (rs.map vv) [] (jn 32 (row.map tk) ++ Z)
  rcases row.eq_nil_or_concat with e | ⟨ts, s, e⟩
  · rw [e]; exact h0 e
  · rw [List.concat_eq_append] at e
    have hs := (g.w s (by rw [e]; simp)).1
    rw [e, List.map_append]
    exact pr_row (us := [tk s]) nofun (ap_ne hs.1) (fun q hq => g.w q (by rw [e]; simp [hq])) (h1 ts s e hs)
theorem pr_good (g : Gd rs row) (h : K (some (rs.map vv ++ [row.map Sy.v]))) : Pr K [] [] (line (R0 rs row)) := by
  have := pr_tail (K := K) (Z := []) g (fun e => pr_nil (by rw [e] at h; exact h)) fun ts s e ht => by
    rw [List.append_nil]
    refine pr_end ht ?_
    rw [e, List.map_append] at h; exact h
  rwa [List.append_nil] at this
theorem nk_cut1 (g : Gd rs row) : Pr Nk [] [] (line (R0 rs row) ++ [32, 39]) := pr_tail g (fun _ => pr_bad nofun (sm_no d32 (by omega)) nk_none) fun ts s e ht => pr_sp ht nofun (pr_bad nofun rfl nk_none)
theorem nk_sp (g : Gd rs row) : Pr Nk [] [] (line (R0 rs row) ++ [32]) := pr_tail g (fun _ => pr_bad nofun (sm_no d32 (by omega)) nk_none) fun ts s e ht => pr_spe ht nk_none
theorem nk_nl (g : Gd rs row) (hl : row.length ≠ 2) (Z : List Nat) : Pr Nk [] [] (line (R0 rs row) ++ 10 :: Z) := pr_tail g (fun _ => pr_bad nofun (sm_no d10 (by omega)) nk_none) fun ts s e ht => pr_nl ht (lost_len (by rw [e] at hl; simpa using hl))
theorem nk_cut2 {ts : List Sy} {c : Nat} (g : Gd rs (ts ++ [.ch c])) : ∃ L, line (R0 rs (ts ++ [.ch c])) = L ++ [c] ∧ Pr Nk [] [] L := by
  refine ⟨line (rs.map rtx ++ [ts.map tk ++ [[39]]]), ?_, ?_⟩
  · unfold R0 line
    rw [List.map_append, List.map_append, List.map_append]
    show jn 10 (_ ++ [jn 32 (ts.map tk ++ [[39] ++ [c]])]) = jn 10 (_ ++ [jn 32 (ts.map tk ++ [[39]])]) ++ [c]
    rw [jn_snoc, jn_snoc]
  · have := pr_pairs (K := Nk) (Z := []) (R := [ts.map tk ++ [[39]]]) (D := []) nofun g.r ?_
    · rwa [List.append_nil] at this
    · show Pr Nk (rs.map vv) [] (jn 32 (ts.map tk ++ [[39]]) ++ [])
      exact pr_row (us := [[39]]) nofun nofun (fun q hq => g.w q (by simp [hq])) (pr_bad nofun rfl nk_none)
theorem nk_front (x : Nat) (L : List Nat) (h1 : dg x = false) (h2 : x ≠ 39) : Pr Nk [] [] (x :: L) := pr_bad nofun (sm_no h1 h2) nk_none
theorem nk_one (L : List Nat) : Pr Nk [] [] ([39, 97, 10] ++ L) := pr_nl (tk_let 97) (r := L) (lost_len (D := []) (by decide))
theorem nk_more (g : Gd rs row) : Pr Nk [] [] (line (rs.map rtx ++ [[[39, 97]], [[39, 98]]]) ++ Z) := pr_pairs (by simp) g.r (pr_nl (tk_let 97) (r := [39, 98] ++ Z) (lost_len (by decide)))
/-- one row amid the others -/
theorem pr_mid {k : Nat} {pair : List (List Nat)} {rest : List (List (List Nat))} (g : Gd rs row) (hr : rest ≠ []) (h : ∀ W, Pr K ((rs.take k).map vv) [] (jn 32 pair ++ 10 :: W)) : Pr K [] [] (line ((rs.take k).map rtx ++ pair :: rest)) := by
  have := pr_pairs (K := K) (Z := []) (R := pair :: rest) (rs := rs.take k) (D := []) nofun (fun p hp => g.r p (List.mem_of_mem_take hp)) ?_
  · rwa [List.append_nil] at this
  · have e : line (pair :: rest) ++ [] = jn 32 pair ++ 10 :: line rest := by
      unfold line
      rw [List.map_cons, jn_cons (by simp [hr]), List.append_nil]
    rw [e]; exact h _
end
/-! what is put in -/
noncomputable def Odd8 (n : Nat) (t : List Nat) : Prop := ∀ (D : List (List V)) (cur : List V) (W : List Nat) (x : Nat), D.length = n → x = 32 ∨ x = 10 → Pr Nk D cur (t ++ x :: W)
noncomputable def oddT (n many : Nat) : List (List Nat) := [[], [120], [39, 32, 120], [48, 48], dgs (many + n), [39, 97, 98], [45, 49], [49, 46], dgs n, [39, 97, 32]]
noncomputable def lastT (many : Nat) : List (List Nat) := [[9], [120], [39, 32, 120], [48, 48], dgs many, dgs (many + 7), [39, 97, 98], [45, 49], [49, 46], [39, 97, 32, 39]]
theorem dx {x : Nat} (h : x = 32 ∨ x = 10) : dg x = false ∧ x ≠ 39 := by
  rcases h with rfl | rfl
  · exact ⟨d32, by omega⟩
  · exact ⟨d10, by omega⟩
theorem okS_big {n k : Nat} (h : n ≤ k) : okS n (.int k) = false := by
  show (decide ((0 : Int) ≤ k) && decide ((k : Int) < n)) = false
  simp; omega
theorem odd_dgs {n k : Nat} (h : n ≤ k) (hk : k < 16) : Odd8 n (dgs k) := fun D cur W x hD hx => by
  have hs : okS D.length (.int (k : Int)) = false := okS_big (hD ▸ h)
  rcases hx with rfl | rfl
  · cases W with
    | nil => exact pr_spe (tk_dgs hk) nk_none
    | cons c W => exact pr_sp (tk_dgs hk) nofun (lost_sym (v := .int k) (by simp) hs)
  · exact pr_nl (tk_dgs hk) (lost_row (v := .int k) (by simp) hs)
theorem tk_1 : Tk [49] (.int 1) := tk_dgs (k := 1) (by omega)
theorem d46 : dg 46 = false := by decide +kernel
theorem d120 : dg 120 = false := by decide +kernel
theorem d98 : dg 98 = false := by decide +kernel
theorem odd_ok8 {n many : Nat} (h : n < many) (hm : many ≤ 8) : ∀ t ∈ oddT n many, Odd8 n t ∧ t.length ≤ 3 := by
  intro t ht
  simp only [oddT, List.mem_cons, List.not_mem_nil, or_false] at ht
  have hd : ∀ k, k < 16 → (dgs k).length ≤ 3 := fun k hk => by have := (dgs_ok k hk).2.2.2.2.2; omega
  rcases ht with rfl | rfl | rfl | rfl | rfl | rfl | rfl | rfl | rfl | rfl
  · exact ⟨fun D cur W x hD hx => pr_bad nofun (sm_no (dx hx).1 (dx hx).2) nk_none, by decide⟩
  · exact ⟨fun D cur W x hD hx => pr_bad nofun (sm_no d120 (by omega)) nk_none, by decide⟩
  · exact ⟨fun D cur W x hD hx => pr_odd (t := [39, 32]) (tk_let 32) d120 (by omega) (by omega) nk_none, by decide⟩
  · exact ⟨fun D cur W x hD hx => pr_bad nofun (sm_nought (by decide +kernel) (by decide) rfl fun y hy => by cases hy; exact (dx hx).1) nk_none, by decide⟩
  · exact ⟨odd_dgs (by omega) (by omega), hd _ (by omega)⟩
  · exact ⟨fun D cur W x hD hx => pr_odd (t := [39, 97]) (tk_let 97) d98 (by omega) (by omega) nk_none, by decide⟩
  · exact ⟨fun D cur W x hD hx => pr_bad nofun (sm_no (by decide +kernel) (by omega)) nk_none, by decide⟩
  · exact ⟨fun D cur W x hD hx => pr_odd (t := [49]) tk_1 d46 (by omega) (by omega) nk_none, by decide⟩
  · exact ⟨odd_dgs (by omega) (by omega), hd _ (by omega)⟩
  · exact ⟨fun D cur W x hD hx => pr_sp (t := [39, 97]) (tk_let 97) nofun (pr_bad nofun (sm_no (dx hx).1 (dx hx).2) nk_none), by decide⟩
/-- what may stand behind an odd thing in the last row -/
noncomputable def Bh (Z : List Nat) : Prop := Z = [] ∨ ∃ c W, Z = 32 :: c :: W ∧ c ≠ 10 ∧ c ≠ 32
noncomputable def OddL (n : Nat) (t : List Nat) : Prop := ∀ (D : List (List V)) (cur : List V) (Z : List Nat), D.length = n → Bh Z → Pr Nk D cur (t ++ Z)
theorem bh_dg {Z : List Nat} (h : Bh Z) : ∀ x ∈ Z.head?, dg x = false := by
  rcases h with rfl | ⟨c, W, rfl, _⟩
  · exact nofun
  · intro x hx; cases hx; exact d32
theorem oddl_dgs {n k : Nat} (h : n ≤ k) (hk : k < 16) : OddL n (dgs k) := fun D cur Z hD hZ => by
  rcases hZ with rfl | ⟨c, W, rfl, _⟩
  · rw [List.append_nil]
    refine pr_end (tk_dgs hk) fun rows e q => ?_
    cases e
    have := (ok_at (D := D) (r := []) q).1 (.int k) (by simp)
    rw [okS_big (hD ▸ h)] at this; cases this
  · exact odd_dgs h hk D cur _ 32 hD (.inl rfl)
theorem last_ok8 {many : Nat} (hm : many ≤ 8) : ∀ t ∈ lastT many, OddL many t ∧ t.length ≤ 4 ∧ t ≠ [] := by
  intro t ht
  simp only [lastT, List.mem_cons, List.not_mem_nil, or_false] at ht
  have hd : ∀ k, k < 16 → (dgs k).length ≤ 4 ∧ dgs k ≠ [] := fun k hk => by have := dgs_ok k hk; exact ⟨by omega, this.2.1⟩
  rcases ht with rfl | rfl | rfl | rfl | rfl | rfl | rfl | rfl | rfl | rfl
  · exact ⟨fun D cur Z hD hZ => pr_bad nofun (sm_no (by decide +kernel) (by omega)) nk_none, by decide⟩
  · exact ⟨fun D cur Z hD hZ => pr_bad nofun (sm_no d120 (by omega)) nk_none, by decide⟩
  · exact ⟨fun D cur Z hD hZ => pr_odd (t := [39, 32]) (tk_let 32) d120 (by omega) (by omega) nk_none, by decide⟩
  · exact ⟨fun D cur Z hD hZ => pr_bad nofun (sm_nought (by decide +kernel) (by decide) rfl (bh_dg hZ)) nk_none, by decide⟩
  · exact ⟨oddl_dgs (by omega) (by omega), hd _ (by omega)⟩
  · exact ⟨oddl_dgs (by omega) (by omega), hd _ (by omega)⟩
  · exact ⟨fun D cur Z hD hZ => pr_odd (t := [39, 97]) (tk_let 97) d98 (by omega) (by omega) nk_none, by decide⟩
  · exact ⟨fun D cur Z hD hZ => pr_bad nofun (sm_no (by decide +kernel) (by omega)) nk_none, by decide⟩
  · exact ⟨fun D cur Z hD hZ => pr_odd (t := [49]) tk_1 d46 (by omega) (by omega) nk_none, by decide⟩
  · refine ⟨fun D cur Z hD hZ => pr_sp (t := [39, 97]) (r := 39 :: Z) (tk_let 97) nofun ?_, by decide⟩
    rcases hZ with rfl | ⟨c, W, rfl, h1, h2⟩
    · exact pr_bad nofun rfl nk_none
    · exact pr_odS (t := [39, 32]) nofun rfl h1 h2 nk_none
section
variable {rs : List Rl} {row : List Sy} {k : Nat}
/-- the first sign of a symbol's text -/
theorem tk_head {s : Sy} (h : Tks s) : ∃ c W, tk s = c :: W ∧ c ≠ 10 ∧ c ≠ 32 := by
  cases s with
  | ch c => exact ⟨39, [c], rfl, by omega, by omega⟩
  | ru k =>
    show ∃ c W, dgs k = c :: W ∧ _
    unfold dgs
    split
    · exact ⟨_, _, rfl, by omega, by omega⟩
    · exact ⟨_, _, rfl, by omega, by omega⟩
theorem nk_last {t : List Nat} (g : Gd rs row) (ht : OddL rs.length t) (h0 : t ≠ []) : Pr Nk [] [] (line (rs.map rtx ++ [(row.take k).map tk ++ t :: (row.drop k).map tk])) := by
  have := pr_pairs (K := Nk) (Z := []) (R := [(row.take k).map tk ++ t :: (row.drop k).map tk]) (D := []) nofun g.r ?_
  · rwa [List.append_nil] at this
  show Pr Nk (rs.map vv) [] (jn 32 _ ++ [])
  refine pr_row (ts := row.take k) (us := t :: (row.drop k).map tk) nofun ?_ (fun q hq => g.w q (List.mem_of_mem_take hq)) ?_
  · intro e
    cases hd : (row.drop k).map tk with
    | nil => rw [hd] at e; simp [jn] at e; exact h0 e
    | cons => rw [hd] at e; simp [jn] at e
  · rw [List.append_nil]
    cases hd : row.drop k with
    | nil =>
      have := ht (rs.map vv) ([] ++ (row.take k).map Sy.v) [] (by simp) (.inl rfl)
      rwa [List.append_nil] at this
    | cons s r =>
      have hs := g.w s (List.mem_of_mem_drop (i := k) (by rw [hd]; simp))
      obtain ⟨c, W, e, h1, h2⟩ := tk_head hs
      rw [List.map_cons, jn_cons (List.cons_ne_nil _ _)]
      refine ht _ _ _ (by simp) (.inr ?_)
      cases r with
      | nil => exact ⟨c, W, by show _ :: tk s = _; rw [e], h1, h2⟩
      | cons s' r => exact ⟨c, W ++ 32 :: jn 32 ((s' :: r).map tk), by rw [List.map_cons, jn_cons (by simp), e]; rfl, h1, h2⟩
theorem take_len {rs : List Rl} {k : Nat} (hk : k < rs.length) : ((rs.take k).map vv).length = k := by rw [List.length_map, List.length_take]; omega
theorem nk_spoil0 {t : List Nat} {s : Sy} {rest : List (List (List Nat))} (g : Gd rs row) (hk : k < rs.length) (hr : rest ≠ []) (ht : Odd8 k t) : Pr Nk [] [] (line ((rs.take k).map rtx ++ [t, tk s] :: rest)) := pr_mid g hr fun W => by
  show Pr Nk _ [] ((t ++ 32 :: tk s) ++ 10 :: W)
  rw [List.append_assoc]
  exact ht _ _ _ 32 (take_len hk) (.inl rfl)
theorem nk_spoil1 {t : List Nat} {s : Sy} {rest : List (List (List Nat))} (g : Gd rs row) (hk : k < rs.length) (hr : rest ≠ []) (hs : Tks s) (ht : Odd8 k t) : Pr Nk [] [] (line ((rs.take k).map rtx ++ [tk s, t] :: rest)) := pr_mid g hr fun W => by
  show Pr Nk _ [] ((tk s ++ 32 :: t) ++ 10 :: W)
  rw [List.append_assoc]
  exact pr_sp hs.1 (by simp) (ht _ _ _ 10 (take_len hk) (.inr rfl))
theorem nk_short {s : Sy} {rest : List (List (List Nat))} (g : Gd rs row) (hr : rest ≠ []) (hs : Tks s) : Pr Nk [] [] (line ((rs.take k).map rtx ++ [tk s] :: rest)) := pr_mid g hr fun W => pr_nl hs.1 (lost_len (by show 1 ≠ 2; decide))
theorem nk_long {s : Sy} {rest : List (List (List Nat))} (g : Gd rs row) (hr : rest ≠ []) (hs : Tks s) : Pr Nk [] [] (line ((rs.take k).map rtx ++ [tk s, [39, 97], [39, 98]] :: rest)) := pr_mid g hr fun W => by
  show Pr Nk _ [] ((tk s ++ 32 :: ([39, 97] ++ 32 :: [39, 98])) ++ 10 :: W)
  rw [List.append_assoc]
  exact pr_sp hs.1 (by simp) (pr_sp (t := [39, 97]) (r := [39, 98] ++ 10 :: W) (tk_let 97) nofun (pr_nl (tk_let 98) (lost_len (by show 3 ≠ 2; decide))))
theorem nk_b0 {s s' : Sy} {rest : List (List (List Nat))} (g : Gd rs row) (hr : rest ≠ []) (hs : Tks s) : Pr Nk [] [] (line ((rs.take k).map rtx ++ [tk s ++ [32], tk s'] :: rest)) := pr_mid g hr fun W => by
  show Pr Nk _ [] (((tk s ++ [32]) ++ 32 :: tk s') ++ 10 :: W)
  rw [List.append_assoc, List.append_assoc]
  exact pr_sp hs.1 nofun (pr_bad nofun (sm_no d32 (by omega)) nk_none)
theorem nk_b2 {s s' : Sy} {rest : List (List (List Nat))} (g : Gd rs row) (hr : rest ≠ []) : Pr Nk [] [] (line ((rs.take k).map rtx ++ [32 :: tk s, tk s'] :: rest)) := pr_mid g hr fun W => pr_bad (l := 32 :: _) nofun (sm_no d32 (by omega)) nk_none
theorem nk_b1 {s s' : Sy} {n : Nat} {rest : List (List (List Nat))} (g : Gd rs row) (hr : rest ≠ []) (hs : s.ok n) (hs' : s'.ok n) (hn : n ≤ 16) : Pr Nk [] [] (line ((rs.take k).map rtx ++ [tk s ++ tk s'] :: rest)) := pr_mid g hr fun W => by
  show Pr Nk _ [] ((tk s ++ tk s') ++ 10 :: W)
  have t' := tks_ok hs' hn
  cases s with
  | ch c =>
    obtain ⟨x, Y, e, h1, h2⟩ := tk_head t'
    rw [e, List.append_assoc]
    exact pr_odS (t := [39, c]) nofun rfl h1 h2 nk_none
  | ru a =>
    have ha : a < 16 := Nat.lt_of_lt_of_le hs hn
    cases s' with
    | ch c =>
      rw [List.append_assoc]
      exact pr_odd (tk_dgs ha) (x := 39) (by decide +kernel) (by omega) (by omega) nk_none
    | ru b =>
      have hb : b < 16 := Nat.lt_of_lt_of_le hs' hn
      obtain ⟨a1, a2, a3, a4, a5, a6⟩ := dgs_ok a ha
      obtain ⟨b1, b2, b3, b4, b5, b6⟩ := dgs_ok b hb
      show Pr Nk _ [] ((dgs a ++ dgs b) ++ 10 :: W)
      have al : (dgs a ++ dgs b).all dg = true := by rw [List.all_append, a1, b1]; rfl
      by_cases h0 : (dgs a ++ dgs b).head? = some 48
      · refine pr_bad (ap_ne (ap_ne a2)) (sm_nought al ?_ h0 fun y hy => by cases hy; exact d10) nk_none
        have := List.length_pos_iff.mpr a2
        have := List.length_pos_iff.mpr b2
        rw [List.length_append]; omega
      · exact pr_nl (tk_num al (ap_ne a2) (by rw [List.length_append]; omega) fun _ => h0) (lost_len (by show 1 ≠ 2; decide))
end
/-! the long ones -/
theorem pr_rep {K : Option (List (List V)) → Prop} {Z : List Nat} : ∀ {n : Nat} {D : List (List V)}, Pr K (D ++ List.replicate n [lst [97], lst [98]]) [] Z → Pr K D [] (repL n [39, 97, 32, 39, 98, 10] ++ Z)
  | 0, D, h => by rw [List.replicate_zero, List.append_nil] at h; exact h
  | n + 1, D, h => by
    rw [show repL (n + 1) [39, 97, 32, 39, 98, 10] = [39, 97, 32, 39, 98, 10] ++ repL n [39, 97, 32, 39, 98, 10] from by unfold repL; rw [List.replicate_succ, List.flatten_cons]]
    refine pr_sp (t := [39, 97]) (r := [39, 98] ++ 10 :: (repL n [39, 97, 32, 39, 98, 10] ++ Z)) (tk_let 97) nofun (pr_nl (tk_let 98) (pr_rep ?_))
    rw [List.replicate_succ] at h
    rw [List.append_assoc]; exact h
theorem pr_rep0 {K : Option (List (List V)) → Prop} {D : List (List V)} {Z : List Nat} (hz : Z ≠ []) : ∀ {n : Nat} {cur : List V}, Pr K D (cur ++ List.replicate n (.int 0)) Z → Pr K D cur (repL n [48, 32] ++ Z)
  | 0, cur, h => by rw [List.replicate_zero, List.append_nil] at h; exact h
  | n + 1, cur, h => by
    rw [show repL (n + 1) [48, 32] = [48, 32] ++ repL n [48, 32] from by unfold repL; rw [List.replicate_succ, List.flatten_cons]]
    refine pr_sp (t := [48]) (r := repL n [48, 32] ++ Z) (tk_dgs (k := 0) (by omega)) (fun e => hz (List.append_eq_nil_iff.mp e).2) (pr_rep0 hz ?_)
    rw [List.replicate_succ] at h
    rw [List.append_assoc]; exact h
theorem nk_601 : Pr Nk [] [] (repL 601 [39, 97, 32, 39, 98, 10]) := by
  have := pr_rep (K := Nk) (Z := []) (n := 601) (D := []) (pr_nil fun rows e q => ?_)
  · rwa [List.append_nil] at this
  · cases e
    obtain ⟨D, c, e, h, _⟩ := q
    obtain ⟨rfl, _⟩ := List.append_inj' e rfl
    rw [List.nil_append, List.length_replicate] at h; omega
theorem nk_2001 : Pr Nk [] [] ([39, 97, 32, 39, 98, 10] ++ repL 2000 [48, 32] ++ [48]) := by
  have := pr_rep (K := Nk) (Z := repL 2000 [48, 32] ++ [48]) (n := 1) (D := []) (pr_rep0 (Z := [48]) nofun (pr_end (t := [48]) (v := .int 0) (tk_dgs (k := 0) (by omega)) fun rows e q => ?_))
  · rw [List.append_assoc]; exact this
  · cases e
    obtain ⟨D, c, e, _, h, _⟩ := q
    obtain ⟨_, e2⟩ := List.append_inj' e rfl
    cases e2
    rw [List.nil_append, List.length_append, List.length_replicate] at h
    simp at h
end Lib
end

section
set_option autoImplicit false
set_option linter.unusedSimpArgs false
set_option linter.unusedVariables false
namespace Lib
open PySem Mine
/-! law 08: small walks -/
theorem ps_si : ∀ {n : Nat} {l : List Nat} {cur : List V} {rows : List (List V)}, (∀ v ∈ cur, isSI v = true) → ps n cur l = some (some rows) → rows.length ≤ l.length + 1 ∧ ∀ r ∈ rows, ∀ v ∈ r, isSI v = true
  | 0, _, _, _, _, h => by cases h
  | n + 1, [], cur, rows, hc, h => by cases h; exact ⟨Nat.le_refl _, fun r hr => by rw [List.mem_singleton.mp hr]; exact hc⟩
  | n + 1, c :: l, cur, rows, hc, h => by
    cases hs : sm (c :: l) with
    | bad => rw [ps_bad (List.cons_ne_nil _ _) hs] at h; cases h
    | unk => exact absurd hs (sm_unk _)
    | ok v m =>
      rw [ps_ok (List.cons_ne_nil _ _) hs] at h
      obtain ⟨m1, m2, m3⟩ := sm_ok hs
      have hc' : ∀ w ∈ cur ++ [v], isSI w = true := fun w hw => by
        rcases List.mem_append.mp hw with hw | hw
        · exact hc w hw
        · rw [List.mem_singleton.mp hw]; exact m3
      have hd : ((c :: l).drop m).length ≤ l.length := by rw [List.length_drop]; simp; omega
      generalize (c :: l).drop m = l' at hd h
      cases l' with
      | nil => cases h; exact ⟨by simp, fun r hr => by rw [List.mem_singleton.mp hr]; exact hc'⟩
      | cons x r =>
        simp only [List.length_cons] at hd ⊢
        rw [nxt] at h
        by_cases h1 : x = 10
        · rw [if_pos h1] at h
          obtain ⟨o, e1, e2⟩ := Option.map_eq_some_iff.mp h
          obtain ⟨z, e3, e4⟩ := Option.map_eq_some_iff.mp e2
          subst e3 e4
          obtain ⟨i1, i2⟩ := ps_si (cur := []) nofun e1
          refine ⟨by simp; omega, fun r hr => ?_⟩
          rcases List.mem_cons.mp hr with rfl | hr
          · exact hc'
          · exact i2 r hr
        · rw [if_neg h1] at h
          by_cases h2 : x = 32
          · rw [if_pos h2] at h
            by_cases h3 : r = []
            · rw [if_pos h3] at h; cases h
            · rw [if_neg h3] at h
              obtain ⟨i1, i2⟩ := ps_si hc' h
              exact ⟨by omega, i2⟩
          · rw [if_neg h2] at h; cases h
theorem pl_si {v : V} (h : isSI v = true) : pl v = true := by cases v <;> first | rfl | cases h
theorem pl_tup {r : List V} (h : ∀ v ∈ r, isSI v = true) : plR (.tup r) = true := by
  unfold plR
  split
  · rename_i a b e
    cases e
    rw [pl_si (h _ (by simp)), pl_si (h _ (by simp))]; rfl
  · rfl
section
variable {tbl : Tbl} {gl : List (String × V)} {cls : Clss} {d : Nat} {H : AH}
theorem bkV_app (D : List (List V)) (c : List V) : bkV (D ++ [c]) = .tup [.lst (D.map V.tup), .lst c] := by unfold bkV; rw [List.dropLast_concat, List.getLast?_concat]; rfl
theorem bad_rows {rows : List (List V)} (h : Has8b tbl gl) (hn : rows ≠ []) (hl : rows.length ≤ 10000000) (hs : ∀ r ∈ rows, ∀ v ∈ r, isSI v = true) (hk : ¬ OkRows rows) : Bad tbl gl cls (bkV rows) := fun d H Q X q => by
  obtain ⟨D, c, rfl⟩ : ∃ D c, rows = D ++ [c] := ⟨_, _, (List.dropLast_concat_getLast hn).symm⟩
  rw [bkV_app]
  rw [List.length_append] at hl
  refine nb_lists (w := .none) h.toHas3 (fun v hv => ?_) (fun v hv => pl_si (hs c (by simp) v hv)) (by rw [List.length_map]; omega) (fun _ => q) fun ⟨a, b, e, f⟩ => absurd ⟨D, c, rfl, ?_, b, e, ?_⟩ hk
  · obtain ⟨r, hr, rfl⟩ := List.mem_map.mp hv
    exact pl_tup (hs r (by simp [hr]))
  · rwa [List.length_map] at a
  · rwa [List.length_map] at f
theorem bad8_of {L : List Nat} (h : Has8b tbl gl) (hz : L.length < 1000000) (hp : Pr Nk [] [] L) : Bad8 tbl gl cls (lst L) := by
  obtain ⟨n, o, e, k⟩ := hp
  refine bad_text n h (by omega) (by rw [e]; exact nofun) fun rows hr => ?_
  obtain ⟨i1, i2⟩ := ps_si (cur := []) nofun hr
  have hn := ps_ne hr
  rw [e] at hr
  cases hr
  exact ⟨by omega, bad_rows h hn (by omega) i2 (k rows rfl)⟩
theorem okS_sy8 {s : Sy} {n : Nat} (h : s.ok n) : okS n s.v = true := by
  cases s with
  | ch c =>
    show (((#[c] : Array Nat).toList.all fun c => hasSub SIGNS ⟨#[c]⟩) && decide (1 = 1)) = true
    have := has_sign c h
    simp [this]
  | ru k =>
    have hk : k < n := h
    show (decide ((0 : Int) ≤ k) && decide ((k : Int) < n)) = true
    simp; omega
theorem okRs_ok8 : ∀ {l : List Rl} {n : Nat}, (∀ (i : Nat) (p : Rl), l[i]? = some p → p.1.ok (n + i) ∧ p.2.ok (n + i)) → okRs n (l.map pv) = true
  | [], _, _ => rfl
  | p :: l, n, h => by
    show ((okS n p.1.v && okS n p.2.v) && okRs (n + 1) (l.map pv)) = true
    have ⟨(a : p.1.ok n), (b : p.2.ok n)⟩ := h 0 p rfl
    rw [okS_sy8 a, okS_sy8 b, okRs_ok8 fun i q hq => by
      have := h (i + 1) q (by simpa using hq)
      rw [show n + 1 + i = n + (i + 1) from by omega]; exact this]
    rfl
theorem ca_read {rs : List Rl} {row : List Sy} (h : Has8b tbl gl) (hr : RulesOk rs) (hw : RowOk rs.length row) (h1 : rs.length ≤ 8) (h2 : row.length ≤ 8) (g : Gd rs row) (hz : (line (R0 rs row)).length < 10000000) : Ca (cxN tbl gl cls (d + 5)) "read" [lst (line (R0 rs row))] H (bookV rs row) := fun Q X q => by
  obtain ⟨n, o, e, k⟩ := pr_good (K := fun o => o = some (rs.map vv ++ [row.map Sy.v])) g rfl
  have ho : o = some (rs.map vv ++ [row.map Sy.v]) := by rw [show o.map (([] : List (List V)) ++ ·) = o from by cases o <;> rfl] at k; exact k
  subst ho
  refine read_of (n := n) h hz (fun rows hp => ?_) (fun rows hp Q' hq => ?_) (fun hp => ?_) (by rw [e]; exact nofun)
  · rw [e] at hp; cases hp; simp; omega
  · rw [e] at hp; cases hp
    rw [bkV_app, show (rs.map vv).map V.tup = rs.map pv from by rw [List.map_map]; rfl]
    have sf : frz H H 8 (bookV rs row) = some (bookV rs row) := sf_two (n := 7) (sf_lst fun v hv => by obtain ⟨p, _, rfl⟩ := List.mem_map.mp hv; exact sf_pv (n := 4) p) (sf_lst fun v hv => by obtain ⟨p, _, rfl⟩ := List.mem_map.mp hv; exact sf_sy (n := 5) p) H H
    have gg : (rs.map pv).length ≤ 600 ∧ (row.map Sy.v).length ≤ 2000 ∧ okRs 0 (rs.map pv) = true ∧ (row.map Sy.v).all (okS (rs.map pv).length) = true := by
      refine ⟨by simp; omega, by simp; omega, okRs_ok8 fun i p hp => by rw [Nat.zero_add]; exact hr i p hp, ?_⟩
      rw [List.all_eq_true]
      intro v hv
      obtain ⟨s, hs, rfl⟩ := List.mem_map.mp hv
      rw [List.length_map]
      exact okS_sy8 (hw s hs)
    have psy : ∀ s : Sy, pl s.v = true := fun s => by cases s <;> rfl
    refine nb_lists (w := bookV rs row) h.toHas3 (fun v hv => ?_) (fun v hv => ?_) (by rw [List.length_map]; omega) (fun q => absurd gg q) fun _ => ⟨sf, hq _ _ sf q⟩
    · obtain ⟨p, _, rfl⟩ := List.mem_map.mp hv
      show (pl p.1.v && pl p.2.v) = true
      rw [psy, psy]; rfl
    · obtain ⟨s, _, rfl⟩ := List.mem_map.mp hv
      exact psy s
  · rw [e] at hp; cases hp
end
/-! calls whose answer is known in part -/
noncomputable def CaP (C : Cx) (f : String) (vs : List V) (H : AH) (P : V → Prop) : Prop := ∀ (Q : V → Prop) (X : String → Prop), (∀ w, P w → Q w) → C.call f vs H Q X
section
variable {C : Cx} {st : St} {ρ : List (Option V)} {H B : AH} {Q : Fl → St → Prop} {X : String → St → Prop} {b r : Bl} {P P1 : V → Prop} {e a : E}
theorem evp_call {f : String} {es : Es} {vs : List V} (he : Evs C st es vs) (hc : CaP C f vs st.H P) : EvP C st (.call f es) P := fun _ _ q => he _ _ (hc _ _ q)
theorem evp_call2 {f : String} {e1 e2 : E} {v : V} (h1 : EvP C st e1 P1) (h2 : Ev C st e2 v) (hc : ∀ w, P1 w → CaP C f [w, v] st.H P) : EvP C st (.call f (.cons e1 (.cons e2 .nil))) P := fun Q X q => h1 _ _ fun w hw => h2 _ _ (hc w hw Q X q)
theorem evp_list2 {e1 e2 : E} {v : V} (h1 : Ev C st e1 v) (h2 : EvP C st e2 P) : EvP C st (.list (.cons e1 (.cons e2 .nil))) (fun w => ∃ x, P x ∧ w = .lst [v, x]) := fun Q X q => h1 _ _ (h2 _ _ fun w hw => ⟨by show (2 : Nat) ≤ _; decide, q _ ⟨w, hw, rfl⟩⟩)
theorem w_appP {i a : Nat} {vs : List V} (hx : ρ[i]? = some (some (.ref a))) (ha : H a = some (.list vs)) (hB : B a = none) (he : EvP C ⟨ρ, H, B⟩ e P) (hl : vs.length < sizeLine) (hb : ∀ w, P w → WB C b ⟨ρ, H.upd a (.list (vs ++ [w])), B⟩ Q X) : WB C (.cons (.append (.var i) (.pure e)) b) ⟨ρ, H, B⟩ Q X := by
  refine ev_var (C := C) (H := H) (B := B) hx _ (fun x => X x ⟨ρ, H, B⟩) ?_
  show (match H a with
      | some (.list _) => _
      | _ => False)
  rw [ha]
  refine he _ _ fun w hw => ?_
  show (match H a with
        | some (.list vs) => _
        | _ => False)
  rw [ha]
  exact ⟨hB, hl, hb w hw⟩
theorem w_retO {vs : List V} (he : Ev C ⟨ρ, H, B⟩ e (.lst vs)) (h : ∀ a, H a = none → B a = none → Q (.ret (.ref a)) ⟨ρ, H.upd a (.list vs), B⟩) : WB C (.cons (.retO e) b) ⟨ρ, H, B⟩ Q X := he _ _ fun a ha => h a ha.1 ha.2
theorem w_callO {i : Nat} {f : String} {es : Es} {vs : List V} {PP : List V → Prop} (he : Evs C ⟨ρ, H, B⟩ es vs) (hi : Nat.blt i ρ.length = true) (hc : ∀ (Q' : List V → Prop) (X' : String → Prop), (∀ ws, PP ws → Q' ws) → C.callO f vs H Q' X') (hb : ∀ ws, PP ws → ∀ a, H a = none → B a = none → WB C b ⟨ρ.set i (some (.ref a)), H.upd a (.list ws), B⟩ Q X) : WB C (.cons (.own i (.callO f es)) b) ⟨ρ, H, B⟩ Q X := he _ _ (hc _ _ fun ws hw a ha => by
  show (match (match putV i (.ref a) ρ with
    | some ρ' => _
    | none => False) with
    | p => p)
  unfold putV; rw [if_pos (Nat.blt_eq.mp hi)]; exact hb ws hw a ha.1 ha.2)
noncomputable def PKO (H : AH) (Q : List V → Prop) : Fl → St → Prop := fun fl st => match fl with
  | .ret v => giveP st.H H v Q
  | .next => giveP st.H H .none Q
  | _ => False
theorem callO_of {tbl : Tbl} {gl : List (String × V)} {cls : Clss} {d : Nat} {f : String} {fn : Fn} {args : List V} {H : AH} {Q : List V → Prop} {X : String → Prop} (h : tbl.lookup f = some fn) (h1 : args.length = fn.np) (h2 : fn.np ≤ fn.nv)
    (h3 : WB (cxN tbl gl cls d) fn.body ⟨args.map some ++ List.replicate (fn.nv - fn.np) none, H, H⟩ (PKO H Q) (fun x _ => X x)) : (cxN tbl gl cls (d + 1)).callO f args H Q X := by
  show (match tbl.lookup f with
    | none => False
    | some fn => _)
  rw [h]
  exact ⟨h1, h2, h3⟩
/-! texts -/
theorem ev_lit {s : Str} {l : List Nat} (h : s = ⟨l.toArray⟩) : Ev C st (.str s) (lst l) := h ▸ ev_str
theorem ev_catT {x y : List Nat} {e' : E} (ha : Ev C st e (lst x)) (hb : Ev C st e' (lst y)) (h : x.length + y.length ≤ 16777216) : Ev C st (.bin .add e e') (lst (x ++ y)) := by
  have := ev_cat ha hb (by rw [st_len, st_len]; exact h)
  rwa [show (⟨x.toArray⟩ ++ ⟨y.toArray⟩ : Str) = ⟨(x ++ y).toArray⟩ from by apply Str.ext'; simp [Str.cps_append]] at this
theorem ev_initT {l : List Nat} {c : Nat} (ha : Ev C st e (lst (l ++ [c]))) : Ev C st (.slice e .none (.neg (.int 1))) (lst l) := fun Q X q => ha _ _ (by
  show Q (.str ⟨(cutL (l ++ [c]) 0 (clip (⟨(l ++ [c]).toArray⟩ : Str).length (-1))).toArray⟩)
  have e : clip (l ++ [c]).length (-1) = l.length := by unfold clip; rw [if_pos (by omega)]; simp; omega
  rw [st_len, e]; unfold cutL; rw [List.drop_zero, Nat.sub_zero, List.take_left]; exact q)
theorem str_dgs : ∀ k < 16, Str.ofString (toString ((k : Nat) : Int)) = ⟨(dgs k).toArray⟩ := by decide +kernel
theorem ev_strOf {k : Nat} (hk : k < 16) (ha : Ev C st e (.int k)) : Ev C st (.strOf e) (lst (dgs k)) := fun Q X q => ha _ _ ⟨by omega, by rw [str_dgs k hk]; exact q⟩
/-! a list that is kept -/
theorem sb_lastR {a : Nat} {l : List V} {w : V} (ha : H a = some (.list (l ++ [w]))) : Sb H (.ref a) (.int (-1)) w := fun Q q => by
  show (match H a with
    | some (.dict kvs) => _
    | some (.list vs) => _
    | _ => False)
  rw [ha]
  exact sb_last (H := H) Q q
theorem ev_takeR {ad : Nat} {l : List V} {hi : E} {k : Nat} (ha : Ev C st e (.ref ad)) (hh : st.H ad = some (.list l)) (hk : Ev C st hi (.int k)) (hl : k ≤ l.length) : Ev C st (.slice e .none hi) (.lst (l.take k)) := fun Q X q => ha _ _ (hk _ _ (by
  have e : clip l.length (k : Int) = k := by unfold clip; rw [if_neg (by omega)]; omega
  show (match seqL st.H (.ref ad) with
    | some vs => (match bnd vs.length 0 .none, bnd vs.length vs.length (.int k) with
      | some l, some h => Q (.lst (cutL vs l h))
      | _, _ => False)
    | none => False)
  rw [seq_ref hh]
  show Q (.lst (cutL l 0 (clip l.length (k : Int))))
  rw [e]; exact q))
theorem ev_dropR {ad : Nat} {l : List V} {lo : E} {k : Nat} (ha : Ev C st e (.ref ad)) (hh : st.H ad = some (.list l)) (hk : Ev C st lo (.int k)) (hl : k ≤ l.length) : Ev C st (.slice e lo .none) (.lst (l.drop k)) := fun Q X q => ha _ _ (hk _ _ (by
  have e : clip l.length (k : Int) = k := by unfold clip; rw [if_neg (by omega)]; omega
  show (match seqL st.H (.ref ad) with
    | some vs => (match bnd vs.length 0 (.int k), bnd vs.length vs.length .none with
      | some l, some h => Q (.lst (cutL vs l h))
      | _, _ => False)
    | none => False)
  rw [seq_ref hh]
  show Q (.lst (cutL l (clip l.length (k : Int)) l.length))
  rw [e]; unfold cutL; rw [List.take_of_length_le (by rw [List.length_drop]; omega)]; exact q))
theorem ev_initR {ad : Nat} {l : List V} {w : V} (ha : Ev C st e (.ref ad)) (hh : st.H ad = some (.list (l ++ [w]))) : Ev C st (.slice e .none (.neg (.int 1))) (.lst l) := fun Q X q => ha _ _ (by
  show (match seqL st.H (.ref ad) with
    | some vs => (match bnd vs.length 0 .none, bnd vs.length vs.length (.int (-1)) with
      | some l, some h => Q (.lst (cutL vs l h))
      | _, _ => False)
    | none => False)
  rw [seq_ref hh]
  show Q (.lst (cutL (l ++ [w]) 0 (clip (l ++ [w]).length (-1))))
  have e : clip (l ++ [w]).length (-1) = l.length := by unfold clip; rw [if_pos (by omega)]; simp; omega
  rw [e]; unfold cutL; rw [List.drop_zero, Nat.sub_zero, List.take_left]; exact q)
end
end Lib
end

section
set_option autoImplicit false
set_option linter.unusedSimpArgs false
set_option linter.unusedVariables false
namespace Lib
open PySem Mine
/-! law 08: the law's own functions -/
structure Has8d (tbl : Tbl) (gl : List (String × V)) : Prop extends Has8c tbl gl where
  cell : tbl.lookup "_law_cell_at" = some F_law_cell_at
  symbol' : tbl.lookup "_law_symbol" = some L08.F_law_symbol
  rows' : tbl.lookup "_law_rows" = some L08.F_law_rows
  spoilt : tbl.lookup "_law_spoilt" = some L08.F_law_spoilt
  last : tbl.lookup "_law_last" = some L08.F_law_last
  cut : tbl.lookup "_law_cut" = some L08.F_law_cut
  line : tbl.lookup "_law_line" = some L08.F_law_line
noncomputable def rv (r : List (List Nat)) : V := .lst (r.map lst)
theorem flat_le {m : Nat} : ∀ {r : List (List Nat)}, (∀ t ∈ r, t.length ≤ m) → r.flatten.length ≤ r.length * m
  | [], _ => by simp
  | t :: r, h => by
    have h1 := h t (by simp)
    have h2 := flat_le (m := m) (r := r) fun x hx => h x (by simp [hx])
    rw [List.flatten_cons, List.length_append, List.length_cons, Nat.add_mul]; omega
noncomputable def isI8 (w : V) : Prop := ∃ i : Int, w = .int i
noncomputable def AB : List Nat := [97, 98, 99, 100, 101, 102, 103, 104, 105, 106, 107, 108, 109, 110, 111, 112, 113, 114, 115, 116, 117, 118, 119, 120, 121, 122, 48, 49, 50, 51, 52, 53, 54, 55, 56, 57]
theorem ab_sg : ∀ c ∈ AB, c ∈ SG := by decide +kernel
theorem ab_lit : Str.ofString "abcdefghijklmnopqrstuvwxyz0123456789" = ⟨AB.toArray⟩ := by decide +kernel
theorem q_lit : Str.ofString "'" = ⟨[39].toArray⟩ := by decide +kernel
section
variable {tbl : Tbl} {gl : List (String × V)} {cls : Clss} {d : Nat} {H : AH}
theorem cap_cell {ns : List Int} {k : Nat} (h : Has8d tbl gl) : CaP (cxN tbl gl cls (d + 1)) "_law_cell_at" [.lst (ns.map V.int), .int k] H isI8 := fun Q X q => sp_cell h.cell fun i => q _ ⟨i, rfl⟩
noncomputable def isTk (n : Nat) (w : V) : Prop := ∃ s : Sy, s.ok n ∧ w = lst (tk s)
theorem cap_symbol {w : V} {n : Nat} (h : Has8d tbl gl) (hw : isI8 w) (hn : n ≤ 8) : CaP (cxN tbl gl cls (d + 1)) "_law_symbol" [w, .int n] H (isTk n) := fun Q X q => by
  obtain ⟨i, rfl⟩ := hw
  refine call_of h.symbol' rfl (by decide) ?_
  refine w_if (decide ((n : Int) = 0) || decide (i.fmod 2 = 0)) (ev_or (ev_cmp (ev_var rfl) (ec_one ev_int cm_eq)) fun _ => ev_cmp (ev_mod (ev_var rfl) ev_int (by omega)) (ec_one ev_int cm_eq)) (fun e => ?_) fun e => kn_nil ?_
  · have hf := fm (i.fdiv 2) (b := 36) (by omega)
    have hk : ((i.fdiv 2).fmod 36).toNat < AB.length := by show _ < 36; omega
    refine r2 (w := lst (tk (.ch AB[((i.fdiv 2).fmod 36).toNat]))) (ev_catT (x := [39]) (ev_lit q_lit) (ev_sub (ev_lit ab_lit) (ofi (k := ((i.fdiv 2).fmod 36).toNat) (ev_mod (ev_fdiv (ev_var rfl) ev_int (by omega)) ev_int (by omega)) (by omega)) (sb_txt (List.getElem?_eq_getElem hk))) (by show (2 : Nat) ≤ _; decide)) rfl (q _ ⟨.ch _, ab_sg _ (List.getElem_mem hk), rfl⟩)
  · simp only [Bool.or_eq_false_iff, decide_eq_false_iff_not] at e
    have hf := fm (i.fdiv 2) (b := (n : Int)) (by omega)
    have hk : ((i.fdiv 2).fmod n).toNat < n := by omega
    exact r1 (w := lst (dgs ((i.fdiv 2).fmod n).toNat)) (ev_strOf (by omega) (ofi (ev_mod (ev_fdiv (ev_var rfl) ev_int (by omega)) (ev_var rfl) (by omega)) (by omega))) rfl (q _ ⟨.ru _, hk, rfl⟩)
theorem ca_line {u : V} {R : List (List (List Nat))} (h : Has8d tbl gl) (hs : Sml R) (hu : itemsV H u = some (R.map rv)) : Ca (cxN tbl gl cls (d + 1)) "_law_line" [u] H (lst (line R)) := ca_of h.line rfl (by decide) fun Q X q => by
  have hz : sizeLine = 16777216 := rfl
  have e1 : ∀ r ∈ R, Ev (cxN tbl gl cls d) ⟨[some u, some (rv r)], H, H⟩ (.join (.str (Str.ofString " ")) (.var 1)) (lst (jn 32 r)) := fun r hr => by
    have sr := hs.2 r hr
    have := ev_join (C := cxN tbl gl cls d) (st := ⟨[some u, some (rv r)], H, H⟩) (t := ⟨#[32]⟩) (u := rv r) (ss := r.map S1) ev_sp (ev_var (i := 1) rfl) rfl (strs_lst r) (by
      rw [lenAll_S1, List.length_map]
      have h1 := flat_le sr.2
      have := sr.1
      have h3 : (⟨#[32]⟩ : Str).length = 1 := rfl
      rw [h3, hz]; omega)
    rw [jn_join] at this; exact this
  have e2 := ev_comp (C := cxN tbl gl cls d) (ρ := [some u, none]) (H := H) (B := H) (elt := .join (.str (Str.ofString " ")) (.var 1)) (i := 1) (it := .seq (.var 0)) (v := rv) (g := fun r => lst (jn 32 r)) (r := R) (ei_seq (ev_var rfl) hu) (by have := hs.1; omega) (show 1 < 2 by omega) e1
  have e3 := ev_join (t := ⟨#[10]⟩) (ss := (R.map (jn 32)).map S1) ev_nl e2 rfl (by rw [← strs_lst, List.map_map]; rfl) (by
    rw [lenAll_S1, List.length_map, List.length_map]
    have h1 := flat_le (m := 420) (r := R.map (jn 32)) fun t ht => by
      obtain ⟨r, hr, rfl⟩ := List.mem_map.mp ht
      exact smr_len (hs.2 r hr)
    rw [List.length_map] at h1
    have := hs.1
    have h3 : (⟨#[10]⟩ : Str).length = 1 := rfl
    rw [h3, hz]; omega)
  rw [jn_join] at e3
  exact r1 e3 rfl q
/-! the rows -/
noncomputable def isRows (n : Nat) (ws : List V) : Prop := ∃ rs row, rs.length = n ∧ RulesOk rs ∧ RowOk n row ∧ row.length ≤ 5 ∧ ws = (R0 rs row).map rv
noncomputable def loopA : Bl := (.cons (.assign (.var 5) (.call "_law_symbol" (.cons (.call "_law_cell_at" (.cons (.var 0) (.cons (.bin .add (.int 2) (.bin .mul (.int 2) (.var 3))) .nil))) (.cons (.var 3) .nil))))
    (.cons (.append (.var 2) (.pure (.list (.cons (.var 5) (.cons (.call "_law_symbol" (.cons (.call "_law_cell_at" (.cons (.var 0) (.cons (.bin .add (.int 3) (.bin .mul (.int 2) (.var 3))) .nil))) (.cons (.var 3) .nil))) .nil)))))
    .nil))
theorem rules_snoc {rs : List Rl} {p : Rl} (h : RulesOk rs) (h1 : p.1.ok rs.length) (h2 : p.2.ok rs.length) : RulesOk (rs ++ [p]) := fun i q hq => by
  rw [List.getElem?_append] at hq
  split at hq
  · exact h i q hq
  · have : i = rs.length := by
      have := (List.getElem?_eq_some_iff.mp hq).1
      simp at this; omega
    subst this
    simp at hq
    subst hq; exact ⟨h1, h2⟩
theorem evp_cellk {ρ : List (Option V)} {H' B : AH} {ns : List Int} {e : E} {k : Nat} (h : Has8d tbl gl) (h0 : ρ[0]? = some (some (.lst (ns.map V.int)))) (he : Ev (cxN tbl gl cls (d + 1)) ⟨ρ, H', B⟩ e (.int k)) : EvP (cxN tbl gl cls (d + 1)) ⟨ρ, H', B⟩ (.call "_law_cell_at" (.cons (.var 0) (.cons e .nil))) isI8 := evp_call (evs_cons (ev_var h0) (evs_cons he evs_nil)) (cap_cell h)
theorem lp_A {ns : List Int} {n a : Nat} {r : Bl} {Q : Fl → St → Prop} {X : String → St → Prop} {B : AH} (h : Has8d tbl gl) (hn : n ≤ 8) (hB : B a = none) (hend : ∀ rs x3 x5 H', rs.length = n → RulesOk rs → H' a = some (.list ((rs.map rtx).map rv)) → WB (cxN tbl gl cls (d + 1)) r ⟨[some (.lst (ns.map V.int)), some (.int n), some (.ref a), x3, none, x5], H', B⟩ Q X) : ∀ (m k : Nat) (rs : List Rl) (x3 x5 : Option V) (H' : AH), k + m = n → rs.length = k → RulesOk rs → H' a = some (.list ((rs.map rtx).map rv)) →
    Fo (cxN tbl gl cls (d + 1)) (.var 3) loopA r Q X (upL k n) ⟨[some (.lst (ns.map V.int)), some (.int n), some (.ref a), x3, none, x5], H', B⟩
  | 0, k, rs, x3, x5, H', e, hk, hr, ha => by
    rw [upL_nil (by omega)]
    exact fo_nil (hend rs x3 x5 H' (by omega) hr ha)
  | m + 1, k, rs, x3, x5, H', e, hk, hr, ha => by
    rw [upL_cons (by omega)]
    refine fo_cons (ρ' := [some (.lst (ns.map V.int)), some (.int n), some (.ref a), some (.int k), none, x5]) rfl ?_
    refine w_asgP (P := isTk k) (evp_call2 (evp_cellk (k := 2 + 2 * k) h rfl (ofi (ev_add ev_int (ev_mul ev_int (ev_var rfl) (.inl (by decide)))) (by omega))) (ev_var rfl) fun w hw => cap_symbol h hw (by omega)) rfl ?_
    rintro w ⟨s1, o1, rfl⟩
    refine w_appP (i := 2) rfl ha hB (evp_list2 (P := isTk k) (ev_var (i := 5) rfl) (evp_call2 (evp_cellk (k := 3 + 2 * k) h rfl (ofi (ev_add ev_int (ev_mul ev_int (ev_var rfl) (.inl (by decide)))) (by omega))) (ev_var rfl) fun w hw => cap_symbol h hw (by omega))) ?_ ?_
    · have hz : sizeLine = 16777216 := rfl
      rw [List.length_map, List.length_map]; omega
    · rintro w ⟨x, ⟨s2, o2, rfl⟩, rfl⟩
      refine kf_nil ?_
      refine lp_A h hn hB hend m (k + 1) (rs ++ [(s1, s2)]) _ _ _ (by omega) (by simp [hk]) (rules_snoc hr (hk ▸ o1) (hk ▸ o2)) ?_
      rw [upd_eq, List.map_append, List.map_append]; rfl
noncomputable def loopB : Bl := .cons (.append (.var 4) (.pure (.call "_law_symbol" (.cons (.call "_law_cell_at" (.cons (.var 0) (.cons (.bin .add (.int 20) (.var 3)) .nil))) (.cons (.var 1) .nil))))) .nil
theorem lp_B {ns : List Int} {n a b j : Nat} {r : Bl} {Q : Fl → St → Prop} {X : String → St → Prop} {B : AH} {x5 : Option V} {vs : List V} (h : Has8d tbl gl) (hn : n ≤ 8) (hj : j ≤ 5) (hB : B b = none) (hab : a ≠ b) (hend : ∀ row x3 H', row.length = j → RowOk n row → H' a = some (.list vs) → H' b = some (.list ((row.map tk).map lst)) → WB (cxN tbl gl cls (d + 1)) r ⟨[some (.lst (ns.map V.int)), some (.int n), some (.ref a), x3, some (.ref b), x5], H', B⟩ Q X) : ∀ (m k : Nat) (row : List Sy) (x3 : Option V) (H' : AH), k + m = j → row.length = k → RowOk n row → H' a = some (.list vs) → H' b = some (.list ((row.map tk).map lst)) →
    Fo (cxN tbl gl cls (d + 1)) (.var 3) loopB r Q X (upL k j) ⟨[some (.lst (ns.map V.int)), some (.int n), some (.ref a), x3, some (.ref b), x5], H', B⟩
  | 0, k, row, x3, H', e, hk, hr, ha, hb => by
    rw [upL_nil (by omega)]
    exact fo_nil (hend row x3 H' (by omega) hr ha hb)
  | m + 1, k, row, x3, H', e, hk, hr, ha, hb => by
    rw [upL_cons (by omega)]
    refine fo_cons (ρ' := [some (.lst (ns.map V.int)), some (.int n), some (.ref a), some (.int k), some (.ref b), x5]) rfl ?_
    refine w_appP (i := 4) (P := isTk n) rfl hb hB (evp_call2 (evp_cellk (k := 20 + k) h rfl (ofi (ev_add ev_int (ev_var rfl)) (by omega))) (ev_var rfl) fun w hw => cap_symbol h hw (by omega)) ?_ ?_
    · have hz : sizeLine = 16777216 := rfl
      rw [List.length_map, List.length_map]; omega
    · rintro w ⟨s, o, rfl⟩
      refine kf_nil ?_
      refine lp_B h hn hj hB hab hend m (k + 1) (row ++ [s]) _ _ (by omega) (by simp [hk]) (fun q hq => ?_) (by rw [upd_ne hab]; exact ha) (by rw [upd_eq, List.map_append, List.map_append]; rfl)
      rcases List.mem_append.mp hq with hq | hq
      · exact hr q hq
      · rw [List.mem_singleton.mp hq]; exact o
theorem give_all {H' H : AH} {a : Nat} : ∀ {l : List (List (List Nat))} {ws : List V}, mapO (giveV H' H a) (l.map rv ++ ws) = (mapO (giveV H' H a) ws).map (l.map rv ++ ·)
  | [], ws => by simp
  | r :: l, ws => by
    rw [List.map_cons, List.cons_append]
    show (match giveV H' H a (rv r), mapO (giveV H' H a) (l.map rv ++ ws) with
      | some x, some xs => some (x :: xs)
      | _, _ => none) = _
    rw [give_all]
    cases mapO (giveV H' H a) ws <;> rfl
theorem co_rows {ns : List Int} {n : Nat} {Q : List V → Prop} {X : String → Prop} (h : Has8d tbl gl) (hn : n ≤ 8) (q : ∀ ws, isRows n ws → Q ws) : (cxN tbl gl cls (d + 2)).callO "_law_rows" [.lst (ns.map V.int), .int n] H Q X := by
  refine callO_of h.rows' rfl (by decide) ?_
  refine w_own0 rfl fun a h1 h2 => ?_
  refine w_for (ei_range1 (ev_var rfl) ⟨by omega, by omega⟩) (.inr nofun) ?_
  refine lp_A (ns := ns) (a := a) h hn h2 (fun rs x3 x5 H' hl hr ha => ?_) n 0 [] none none _ (by omega) rfl (fun i p hp => by simp at hp) upd_eq
  refine w_own0 rfl fun b h3 h4 => ?_
  have hab : a ≠ b := fun e => by rw [← e, ha] at h3; cases h3
  have hc : EvP (cxN tbl gl cls (d + 1)) ⟨[some (.lst (ns.map V.int)), some (.int n), some (.ref a), x3, some (.ref b), x5], H'.upd b (.list []), H⟩ (.bin .mod (.bin .fdiv (.call "_law_cell_at" (.cons (.var 0) (.cons (.int 1) .nil))) (.int 7)) (.int 6)) (fun w => ∃ j : Nat, j ≤ 5 ∧ w = .int j) := fun Q X q => by
    have e0 := evp_cellk (cls := cls) (d := d) (ρ := [some (.lst (ns.map V.int)), some (.int n), some (.ref a), x3, some (.ref b), x5]) (H' := H'.upd b (.list [])) (B := H) (e := .int 1) (k := 1) h rfl ev_int
    refine e0 _ _ ?_
    rintro w ⟨i, rfl⟩
    have hf := fm (i.fdiv 7) (b := 6) (by omega)
    exact ⟨by omega, by omega, q _ ⟨((i.fdiv 7).fmod 6).toNat, by omega, by congr 1; omega⟩⟩
  refine hc _ _ ?_
  rintro w ⟨j, hj, rfl⟩
  refine ⟨⟨by omega, by omega⟩, .inr nofun, ?_⟩
  refine lp_B (ns := ns) (n := n) (a := a) (b := b) (j := j) (x5 := x5) (vs := (rs.map rtx).map rv) h hn hj h4 hab (fun row x3 H2 hl2 hw ha2 hb2 => ?_) j 0 [] x3 _ (by omega) rfl nofun (by rw [upd_ne hab]; exact ha) upd_eq
  refine w_retO (vs := (rs.map rtx).map rv ++ [.ref b]) (fun Q X q => ?_) fun c h5 h6 => ?_
  · show (1 : Nat) ≤ sizeLine ∧ seqP H2 (.ref a) fun x => x.length + 1 ≤ sizeLine ∧ Q (.lst (x ++ [.ref b]))
    unfold seqP
    rw [seq_ref ha2]
    have hz : sizeLine = 16777216 := rfl
    exact ⟨by omega, by rw [List.length_map, List.length_map]; omega, q⟩
  · have h5 : H2 c = none := h5
    have h6 : H c = none := h6
    have hcb : b ≠ c := fun e => by rw [← e, hb2] at h5; cases h5
    show giveP (H2.upd c (.list ((rs.map rtx).map rv ++ [.ref b]))) H (.ref c) Q
    show (match H c with
      | some _ => False
      | none => _)
    rw [h6]
    show (match (H2.upd c (.list ((rs.map rtx).map rv ++ [.ref b]))) c with
      | some (.list ws) => _
      | _ => False)
    rw [upd_eq]
    show (match mapO (giveV (H2.upd c (.list ((rs.map rtx).map rv ++ [.ref b]))) H c) ((rs.map rtx).map rv ++ [.ref b]) with
        | some ws' => Q ws'
        | none => False)
    rw [give_all]
    have eb : giveV (H2.upd c (.list ((rs.map rtx).map rv ++ [.ref b]))) H c (.ref b) = some (.lst ((row.map tk).map lst)) := by
      show (if b = c then none else (match H b with
        | some _ => none
        | none => _)) = _
      rw [if_neg hcb, h4]
      show (match (H2.upd c (.list ((rs.map rtx).map rv ++ [.ref b]))) b with
      | some (.list us) => some (V.lst us)
      | _ => none) = _
      rw [upd_ne hcb, hb2]
    rw [show mapO (giveV (H2.upd c (.list ((rs.map rtx).map rv ++ [.ref b]))) H c) [.ref b] = some [.lst ((row.map tk).map lst)] from by
      show (match giveV (H2.upd c (.list ((rs.map rtx).map rv ++ [.ref b]))) H c (.ref b), some ([] : List V) with
      | some x, some xs => some (x :: xs)
      | _, _ => none) = _
      rw [eb]]
    refine q _ ⟨rs, row, hl, hr, hw, by omega, ?_⟩
    unfold R0
    rw [List.map_append]; rfl
end
end Lib
end

section
set_option autoImplicit false
set_option linter.unusedSimpArgs false
set_option linter.unusedVariables false
namespace Lib
open PySem Mine
/-! law 08: what is spoilt -/
theorem gd_of {rs : List Rl} {row : List Sy} (hr : RulesOk rs) (hw : RowOk rs.length row) (hn : rs.length ≤ 8) : Gd rs row :=
  ⟨fun p hp => by
    obtain ⟨i, hi, e⟩ := List.mem_iff_getElem.mp hp
    have := hr i p (by rw [List.getElem?_eq_getElem hi, e])
    exact ⟨tks_ok this.1 (by omega), tks_ok this.2 (by omega)⟩, fun s hs => tks_ok (hw s hs) (by omega)⟩
theorem smr_rtx {p : Rl} (h : Tks p.1 ∧ Tks p.2) : SmR (rtx p) := ⟨by show (2 : Nat) ≤ 20; decide, fun t ht => by
  rcases List.mem_cons.mp ht with rfl | ht
  · have := h.1.2; omega
  · rw [List.mem_singleton.mp ht]; have := h.2.2; omega⟩
theorem smr_row {row : List Sy} (h : ∀ s ∈ row, Tks s) (hl : row.length ≤ 20) : SmR (row.map tk) := ⟨by rw [List.length_map]; exact hl, fun t ht => by
  obtain ⟨s, hs, rfl⟩ := List.mem_map.mp ht
  have := (h s hs).2; omega⟩
theorem sml_app {A B : List (List (List Nat))} (hl : A.length + B.length ≤ 20) (h1 : ∀ r ∈ A, SmR r) (h2 : ∀ r ∈ B, SmR r) : Sml (A ++ B) := ⟨by rw [List.length_append]; exact hl, fun r hr => (List.mem_append.mp hr).elim (h1 r) (h2 r)⟩
section
variable {rs : List Rl} {row : List Sy}
theorem smr_pairs (g : Gd rs row) : ∀ r ∈ rs.map rtx, SmR r := fun r hr => by
  obtain ⟨p, hp, rfl⟩ := List.mem_map.mp hr
  exact smr_rtx (g.r p hp)
theorem smr_R0 (g : Gd rs row) (hl : row.length ≤ 20) : ∀ r ∈ R0 rs row, SmR r := fun r hr => by
  rcases List.mem_append.mp hr with hr | hr
  · exact smr_pairs g r hr
  · rw [List.mem_singleton.mp hr]; exact smr_row g.w hl
theorem sml_R0 (g : Gd rs row) (hn : rs.length ≤ 8) (hl : row.length ≤ 20) : Sml (R0 rs row) := ⟨by simp [R0]; omega, smr_R0 g hl⟩
theorem sml_one {k : Nat} {p : List (List Nat)} (g : Gd rs row) (hn : rs.length ≤ 8) (hl : row.length ≤ 20) (hp : SmR p) : Sml ((rs.take k).map rtx ++ p :: ((rs.drop (k + 1)).map rtx ++ [row.map tk])) := by
  refine sml_app (by simp; omega) (fun r hr => ?_) fun r hr => ?_
  · obtain ⟨q, hq, rfl⟩ := List.mem_map.mp hr
    exact smr_rtx (g.r q (List.mem_of_mem_take hq))
  · rcases List.mem_cons.mp hr with rfl | hr
    · exact hp
    · rcases List.mem_append.mp hr with hr | hr
      · obtain ⟨q, hq, rfl⟩ := List.mem_map.mp hr
        exact smr_rtx (g.r q (List.mem_of_mem_drop hq))
      · rw [List.mem_singleton.mp hr]; exact smr_row g.w hl
/-- the rows, one of them another one -/
theorem R0_set {k : Nat} {p : List (List Nat)} (hk : k < rs.length) : (R0 rs row).set k p = (rs.take k).map rtx ++ p :: ((rs.drop (k + 1)).map rtx ++ [row.map tk]) := by
  have h1 : k < (R0 rs row).length := by simp [R0]; omega
  rw [List.set_eq_take_append_cons_drop, if_pos h1]
  unfold R0
  rw [List.take_append_of_le_length (by rw [List.length_map]; omega), List.drop_append_of_le_length (by rw [List.length_map]; omega), List.map_take, List.map_drop]
theorem R0_at {k : Nat} (hk : k < rs.length) : (R0 rs row)[k]? = some (rtx rs[k]) := by
  unfold R0
  rw [List.getElem?_append_left (by rw [List.length_map]; exact hk), List.getElem?_map, List.getElem?_eq_getElem hk]; rfl
end
noncomputable def isBad8 (w : V) : Prop := ∃ R, Sml R ∧ Pr Nk [] [] (line R) ∧ w = .lst (R.map rv)
theorem sf_rv {n : Nat} (r : List (List Nat)) : Sf (n + 2) (rv r) := sf_lst fun v hv => by
  obtain ⟨t, _, rfl⟩ := List.mem_map.mp hv
  exact fun H B => rfl
theorem sf_R {n : Nat} (R : List (List (List Nat))) : Sf (n + 3) (.lst (R.map rv)) := sf_lst fun v hv => by
  obtain ⟨r, _, rfl⟩ := List.mem_map.mp hv
  exact sf_rv r
theorem l_x : Str.ofString "x" = ⟨[120].toArray⟩ := by decide +kernel
theorem l_0 : Str.ofString "" = ⟨([] : List Nat).toArray⟩ := by decide +kernel
theorem l_qx : Str.ofString "' x" = ⟨[39, 32, 120].toArray⟩ := by decide +kernel
theorem l_00 : Str.ofString "00" = ⟨[48, 48].toArray⟩ := by decide +kernel
theorem l_ab : Str.ofString "'ab" = ⟨[39, 97, 98].toArray⟩ := by decide +kernel
theorem l_m1 : Str.ofString "-1" = ⟨[45, 49].toArray⟩ := by decide +kernel
theorem l_1p : Str.ofString "1." = ⟨[49, 46].toArray⟩ := by decide +kernel
theorem l_as : Str.ofString "'a " = ⟨[39, 97, 32].toArray⟩ := by decide +kernel
theorem l_asq : Str.ofString "'a '" = ⟨[39, 97, 32, 39].toArray⟩ := by decide +kernel
theorem l_t : Str.ofString "\t" = ⟨[9].toArray⟩ := by decide +kernel
theorem l_sq : Str.ofString " '" = ⟨[32, 39].toArray⟩ := by decide +kernel
section
variable {tbl : Tbl} {gl : List (String × V)} {cls : Clss} {d : Nat} {H : AH} {rs : List Rl} {row : List Sy} {a : Nat}
theorem sb_R {k : Nat} {R : List (List (List Nat))} {r : List (List Nat)} (ha : H a = some (.list (R.map rv))) (h : R[k]? = some r) : Sb H (.ref a) (.int k) (rv r) := sb_ref ha (by rw [List.getElem?_map, h]; rfl)
theorem sb_rv {k : Nat} {r : List (List Nat)} {t : List Nat} (h : r[k]? = some t) : Sb H (rv r) (.int k) (lst t) := sb_lst (by rw [List.getElem?_map, h]; rfl)
theorem ev_catL {C : Cx} {st : St} {e e' : E} {A B : List (List (List Nat))} (h1 : Ev C st e (.lst (A.map rv))) (h2 : Ev C st e' (.lst (B.map rv))) (h : A.length + B.length ≤ 1000) : Ev C st (.bin .add e e') (.lst ((A ++ B).map rv)) := by
  rw [List.map_append]
  exact ev_catl h1 h2 (by rw [List.length_map, List.length_map]; have hz : sizeLine = 16777216 := rfl; omega)
theorem cap_spoilt {cell : Int} (h : Has8d tbl gl) (hr : RulesOk rs) (hw : RowOk rs.length row) (hn : rs.length ≤ 8) (h2 : 2 ≤ rs.length) (hl : row.length ≤ 5) (ha : H a = some (.list ((R0 rs row).map rv))) : CaP (cxN tbl gl cls (d + 1)) "_law_spoilt" [.ref a, .int cell, .int rs.length] H isBad8 := fun Q X q => by
  have g := gd_of hr hw hn
  refine call_of h.spoilt rfl (by decide) ?_
  have hf := fm (cell.fdiv 10) (b := (rs.length : Int)) (by omega)
  obtain ⟨k, hk⟩ : ∃ k : Nat, (cell.fdiv 10).fmod rs.length = k := ⟨((cell.fdiv 10).fmod rs.length).toNat, by omega⟩
  have hk' : k < rs.length := by omega
  refine w_asg (w := .int k) (ofi (ev_mod (ev_fdiv (ev_var rfl) ev_int (by omega)) (ev_var rfl) (by omega)) hk) rfl ?_
  refine w_asg (ev_mod (ev_fdiv (ev_var rfl) ev_int (by omega)) ev_int (by omega)) rfl ?_
  have hp := ev_pick (C := cxN tbl gl cls d) (st := ⟨[some (.ref a), some (.int cell), some (.int rs.length), some (.int k), some (.int ((cell.fdiv 80).fmod 2)), none, none], H, H⟩) (a := .var 1) (i := cell) (m := 10) (vs := (oddT k rs.length).map lst) (evs_cons (ev_lit l_0) (evs_cons (ev_lit l_x) (evs_cons (ev_lit l_qx) (evs_cons (ev_lit l_00) (evs_cons (ev_strOf (k := rs.length + k) (by omega) (ofi (ev_add (ev_var (i := 2) rfl) (ev_var (i := 3) rfl)) (by omega))) (evs_cons (ev_lit l_ab) (evs_cons (ev_lit l_m1) (evs_cons (ev_lit l_1p) (evs_cons (ev_strOf (by omega) (ev_var (i := 3) rfl)) (evs_cons (ev_lit l_as) evs_nil)))))))))) rfl rfl (by omega) (ev_var rfl)
  obtain ⟨w, hw', ep⟩ := hp
  obtain ⟨t, ht, rfl⟩ := List.mem_map.mp hw'
  obtain ⟨ot, lt⟩ := odd_ok8 hk' hn t ht
  refine w_asg ep rfl ?_
  obtain ⟨t1, t2⟩ := g.r rs[k] (List.getElem_mem hk')
  have e0 : ∀ {ρ : List (Option V)} {B : AH}, ρ[0]? = some (some (.ref a)) → ρ[3]? = some (some (.int k)) → Ev (cxN tbl gl cls d) ⟨ρ, H, B⟩ (.sub (.var 0) (.var 3)) (rv (rtx rs[k])) := fun h0 h3 => ev_sub (ev_var h0) (ev_var h3) (sb_R ha (R0_at hk'))
  refine w_asg (w := rv [t, tk rs[k].2]) (ev_list (evs_cons (ev_var rfl) (evs_cons (ev_sub (e0 rfl rfl) ev_int (sb_rv (k := 1) rfl)) evs_nil)) rfl) rfl ?_
  have tail : ∀ (p : List (List Nat)), SmR p → Pr Nk [] [] (line ((rs.take k).map rtx ++ p :: ((rs.drop (k + 1)).map rtx ++ [row.map tk]))) → WB (cxN tbl gl cls d) (.cons (.ret (.bin .add (.bin .add (.slice (.var 0) .none (.var 3)) (.list (.cons (.var 6) .nil))) (.slice (.var 0) (.bin .add (.var 3) (.int 1)) .none))) .nil) ⟨[some (.ref a), some (.int cell), some (.int rs.length), some (.int k), some (.int ((cell.fdiv 80).fmod 2)), some (lst t), some (rv p)], H, H⟩ (PK H Q) (fun x _ => X x) := by
    intro p sp hb
    have hR : (R0 rs row).length = rs.length + 1 := by simp [R0]
    refine r1 (w := .lst (((R0 rs row).take k ++ [p] ++ (R0 rs row).drop (k + 1)).map rv)) (ev_catL (ev_catL (A := (R0 rs row).take k) (B := [p]) ?_ (ev_list (evs_cons (ev_var rfl) evs_nil) rfl) (by simp; omega)) (B := (R0 rs row).drop (k + 1)) ?_ (by simp; omega)) (sf_R _ H H) (q _ ⟨_, sml_one g hn (by omega) sp, hb, ?_⟩)
    · rw [List.map_take]
      exact ev_takeR (ev_var rfl) ha (ev_var rfl) (by rw [List.length_map]; omega)
    · rw [List.map_drop]
      exact ev_dropR (ev_var rfl) ha (ofi (ev_add (ev_var rfl) ev_int) (by omega)) (by rw [List.length_map]; omega)
    · rw [← R0_set hk', List.set_eq_take_append_cons_drop, if_pos (by omega)]; simp
  refine w_if (decide ((cell.fdiv 80).fmod 2 = 1)) (ev_cmp (ev_var rfl) (ec_one ev_int cm_eq)) (fun e => ?_) fun e => kn_nil ?_
  · refine w_asg (w := rv [tk rs[k].1, t]) (ev_list (evs_cons (ev_sub (e0 rfl rfl) ev_int (sb_rv (k := 0) rfl)) (evs_cons (ev_var rfl) evs_nil)) rfl) rfl (kn_nil ?_)
    refine tail _ ⟨by show (2 : Nat) ≤ 20; decide, fun x hx => ?_⟩ (nk_spoil1 g hk' (by simp) t1 ot)
    rcases List.mem_cons.mp hx with rfl | hx
    · have := t1.2; omega
    · rw [List.mem_singleton.mp hx]; omega
  · refine tail _ ⟨by show (2 : Nat) ≤ 20; decide, fun x hx => ?_⟩ (nk_spoil0 g hk' (by simp) ot)
    rcases List.mem_cons.mp hx with rfl | hx
    · omega
    · rw [List.mem_singleton.mp hx]; have := t2.2; omega
theorem R0_last : (R0 rs row).map rv = (rs.map rtx).map rv ++ [rv (row.map tk)] := by unfold R0; rw [List.map_append]; rfl
theorem cap_last {cell : Int} (h : Has8d tbl gl) (hr : RulesOk rs) (hw : RowOk rs.length row) (hn : rs.length ≤ 8) (hl : row.length ≤ 5) (ha : H a = some (.list ((R0 rs row).map rv))) : CaP (cxN tbl gl cls (d + 1)) "_law_last" [.ref a, .int cell, .int rs.length] H isBad8 := fun Q X q => by
  have g := gd_of hr hw hn
  rw [R0_last] at ha
  refine call_of h.last rfl (by decide) ?_
  have hp := ev_pick (C := cxN tbl gl cls d) (st := ⟨[some (.ref a), some (.int cell), some (.int rs.length), none, none], H, H⟩) (a := .var 1) (i := cell) (m := 10) (vs := (lastT rs.length).map lst) (evs_cons (ev_lit l_t) (evs_cons (ev_lit l_x) (evs_cons (ev_lit l_qx) (evs_cons (ev_lit l_00) (evs_cons (ev_strOf (k := rs.length) (by omega) (ev_var (i := 2) rfl)) (evs_cons (ev_strOf (k := rs.length + 7) (by omega) (ofi (ev_add (ev_var (i := 2) rfl) (ev_int (i := 7))) (by omega))) (evs_cons (ev_lit l_ab) (evs_cons (ev_lit l_m1) (evs_cons (ev_lit l_1p) (evs_cons (ev_lit l_asq) evs_nil)))))))))) rfl rfl (by omega) (ev_var rfl)
  obtain ⟨w, hw', ep⟩ := hp
  obtain ⟨t, ht, rfl⟩ := List.mem_map.mp hw'
  obtain ⟨ot, lt, nt⟩ := last_ok8 hn t ht
  refine w_asg ep rfl ?_
  have el : ∀ {ρ : List (Option V)} {B : AH}, ρ[0]? = some (some (.ref a)) → Ev (cxN tbl gl cls d) ⟨ρ, H, B⟩ (.sub (.var 0) (.neg (.int 1))) (.lst ((row.map tk).map lst)) := fun h0 => ev_sub (ev_var h0) (ev_neg ev_int) (sb_lastR ha)
  have hlr : ((row.map tk).map lst).length = row.length := by rw [List.length_map, List.length_map]
  obtain ⟨k, hk, ek⟩ := ev_modm (C := cxN tbl gl cls d) (st := ⟨[some (.ref a), some (.int cell), some (.int rs.length), some (lst t), none], H, H⟩) (i := cell.fdiv 10) (m := row.length + 1) (a := .bin .fdiv (.var 1) (.int 10)) (e := .bin .add (.len (.sub (.var 0) (.neg (.int 1)))) (.int 1)) (by omega) (ev_fdiv (ev_var rfl) ev_int (by omega)) (ofi (ev_add (ev_len (n := row.length) (el rfl) (by show some _ = _; rw [hlr])) ev_int) (by omega))
  refine w_asg ek rfl ?_
  have e1 := ev_take (C := cxN tbl gl cls d) (hi := .var 4) (k := k) (el (ρ := [some (.ref a), some (.int cell), some (.int rs.length), some (lst t), some (.int k)]) (B := H) rfl) (ev_var rfl) (by rw [hlr]; omega)
  have e2 := ev_drop (C := cxN tbl gl cls d) (lo := .var 4) (k := k) (el (ρ := [some (.ref a), some (.int cell), some (.int rs.length), some (lst t), some (.int k)]) (B := H) rfl) (ev_var rfl) (by rw [hlr]; omega)
  have hz : sizeLine = 16777216 := rfl
  have e3 := ev_catl (ev_catl e1 (ev_list (evs_cons (ev_var (i := 3) rfl) evs_nil) rfl) (by simp; omega)) e2 (by simp; omega)
  rw [show ((row.map tk).map lst).take k ++ [lst t] ++ ((row.map tk).map lst).drop k = ((row.take k).map tk ++ t :: (row.drop k).map tk).map lst from by simp [List.map_take, List.map_drop]] at e3
  refine r1 (w := .lst ((rs.map rtx ++ [(row.take k).map tk ++ t :: (row.drop k).map tk]).map rv)) (ev_catL (ev_initR (ev_var rfl) ha) (B := [(row.take k).map tk ++ t :: (row.drop k).map tk]) (ev_list (evs_cons e3 evs_nil) rfl) (by simp; omega)) (sf_R _ H H) (q _ ⟨_, sml_app (by simp; omega) (smr_pairs g) ?_, nk_last g ot nt, rfl⟩)
  intro r hr
  rw [List.mem_singleton.mp hr]
  refine ⟨by simp; omega, fun x hx => ?_⟩
  rcases List.mem_append.mp hx with hx | hx
  · obtain ⟨s, hs, rfl⟩ := List.mem_map.mp hx
    have := (g.w s (List.mem_of_mem_take hs)).2; omega
  · rcases List.mem_cons.mp hx with rfl | hx
    · omega
    · obtain ⟨s, hs, rfl⟩ := List.mem_map.mp hx
      have := (g.w s (List.mem_of_mem_drop hs)).2; omega
theorem ca_ref {L : List Nat} (h : Has8d tbl gl) (hz : L.length < 1000000) (hp : Pr Nk [] [] L) : Ca (cxN tbl gl cls (d + 6)) "_law_refused" [lst L] H (.bool true) := ca_refused8 h.toHas8c (bad8_of h.toHas8b hz hp)
theorem ca_cut8 (h : Has8d tbl gl) (hr : RulesOk rs) (hw : RowOk rs.length row) (hn : rs.length ≤ 8) (hl : row.length ≤ 5) (ha : H a = some (.list ((R0 rs row).map rv))) : Ca (cxN tbl gl cls (d + 7)) "_law_cut" [.ref a] H (.bool true) := ca_of h.cut rfl (by decide) fun Q X q => by
  have g := gd_of hr hw hn
  have sl := sml_R0 g hn (by omega)
  have ll := sml_len sl
  refine w_asg (ev_call (evs_cons (ev_var rfl) evs_nil) (ca_line h sl (by show itemsV H (.ref a) = _; simp only [iv_none, iv_bool, iv_int, iv_str, iv_tup, iv_lst, iv_ref, iv_inst, iv_iref, iv_exc, iv_dct, ha]))) rfl ?_
  refine w_iff (ev_not (b := true) (ev_call (evs_cons (ev_catT (y := [32, 39]) (ev_var rfl) (ev_lit l_sq) (by simp; omega)) evs_nil) (ca_ref h (by simp; omega) (nk_cut1 g)))) (kn_nil ?_)
  have ha' := ha
  rw [R0_last] at ha'
  have el : ∀ {ρ : List (Option V)} {B : AH}, ρ[0]? = some (some (.ref a)) → Ev (cxN tbl gl cls (d + 6)) ⟨ρ, H, B⟩ (.sub (.var 0) (.neg (.int 1))) (.lst ((row.map tk).map lst)) := fun h0 => ev_sub (ev_var h0) (ev_neg ev_int) (sb_lastR ha')
  rcases row.eq_nil_or_concat with e | ⟨ts, s, e⟩
  · refine w_iff (ev_and (p := false) (q := true) ?_ nofun) (kn_nil (r1 ev_bool rfl q))
    exact ev_cmp (ev_len (n := 0) (el rfl) (by rw [e]; rfl)) (ec_one ev_int cm_gt)
  · rw [List.concat_eq_append] at e
    have e1 : Ev (cxN tbl gl cls (d + 6)) ⟨[some (.ref a), some (lst (line (R0 rs row)))], H, H⟩ (.cmp (.len (.sub (.var 0) (.neg (.int 1)))) (.one .gt (.int 0))) (.bool true) := by
      have := ev_cmp (ev_len (n := ts.length + 1) (el (ρ := [some (.ref a), some (lst (line (R0 rs row)))]) (B := H) rfl) (by rw [e]; simp)) (ec_one (ev_int (i := 0)) cm_gt)
      rwa [show decide (((ts.length + 1 : Nat) : Int) > 0) = true from by simp] at this
    have e2 : Ev (cxN tbl gl cls (d + 6)) ⟨[some (.ref a), some (lst (line (R0 rs row)))], H, H⟩ (.sub (.sub (.var 0) (.neg (.int 1))) (.neg (.int 1))) (lst (tk s)) := by
      refine ev_sub (el rfl) (ev_neg ev_int) ?_
      rw [e, List.map_append, List.map_append]
      exact sb_last
    obtain ⟨c, W, ec, _⟩ := tk_head (g.w s (by rw [e]; simp))
    refine w_if (true && decide ([c] = [39])) (ev_and e1 fun _ => ev_cmp (ev_sub e2 ev_int (by rw [ec]; exact sb_txt (p := 0) rfl)) (ec_one ev_q cm_txt)) (fun e3 => ?_) fun _ => kn_nil (r1 ev_bool rfl q)
    cases s with
    | ch x =>
      subst e
      obtain ⟨L, eL, pL⟩ := nk_cut2 g
      rw [eL] at ll ⊢
      simp only [List.length_append] at ll
      exact r2 (ev_call (evs_cons (ev_initT (ev_var rfl)) evs_nil) (ca_ref h (by omega) pL)) rfl q
    | ru k =>
      have hk : k < 16 := by have := hw (.ru k) (by rw [e]; simp); have : k < rs.length := this; omega
      have := (dgs_ok k hk).1
      rw [show dgs k = c :: W from ec, List.all_cons] at this
      have hc := dg_mem ((Bool.and_eq_true _ _).mp this).1
      simp at e3; omega
end
end Lib
end

section
set_option autoImplicit false
set_option linter.unusedSimpArgs false
set_option linter.unusedVariables false
namespace Lib
open PySem Mine Mine.L08
theorem has8 : Has8d tbl gtab := ⟨⟨⟨⟨rfl, rfl, rfl⟩, ⟨rfl, rfl, rfl, rfl, rfl, rfl, rfl, rfl⟩, rfl, rfl⟩, rfl⟩, rfl, rfl, rfl, rfl, rfl, rfl, rfl⟩
noncomputable abbrev C8 : Cx := cxN tbl gtab [] 29
/-- the law's names, behind the first five -/
noncomputable def S8 (ns : List Int) (n : Nat) (i : Int) (a : Nat) (y m : Int) (x6 x7 x8 x9 : Option V) : List (Option V) := [some (.lst (ns.map V.int)), some (.int n), some (.int i), some (.ref a), some (.int y), some (.int m), x6, x7, x8, x9]
section
variable {H B : AH} {ρ : List (Option V)} {st : St} {e : E}
theorem ev_rl (he : EvP C8 st e isBad8) : Ev C8 st (.call "_law_refused" (.cons (.call "_law_line" (.cons e .nil)) .nil)) (.bool true) := fun Q X q => he _ _ (by
  rintro w ⟨R, s, p, rfl⟩
  exact ca_line (d := 28) has8 s rfl _ _ (ca_ref (d := 23) has8 (by have := sml_len s; omega) p _ _ q))
theorem ev_ref {L : List Nat} (he : Ev C8 st e (lst L)) (hz : L.length < 1000000) (hp : Pr Nk [] [] L) : Ev C8 st (.call "_law_refused" (.cons e .nil)) (.bool true) := ev_call (evs_cons he evs_nil) (ca_ref (d := 23) has8 hz hp)
theorem ev_ln {a : Nat} {R : List (List (List Nat))} (he : Ev C8 ⟨ρ, H, B⟩ e (.ref a)) (ha : H a = some (.list (R.map rv))) (hs : Sml R) : Ev C8 ⟨ρ, H, B⟩ (.call "_law_line" (.cons e .nil)) (lst (line R)) := ev_call (evs_cons he evs_nil) (ca_line (d := 28) has8 hs (by simp only [iv_none, iv_bool, iv_int, iv_str, iv_tup, iv_lst, iv_ref, iv_inst, iv_iref, iv_exc, iv_dct, ha]))
theorem ev_mulT {a b : E} {l : List Nat} {n : Nat} (ha : Ev C8 st a (lst l)) (hb : Ev C8 st b (.int n)) (h : n < 10000) (h2 : l.length * n ≤ 16777216) : Ev C8 st (.bin .mul a b) (lst (repL n l)) := ev_bin ha hb fun _ q => ⟨by omega, by omega, by rw [st_len]; exact h2, q⟩
end
theorem l_nqa : Str.ofString "\n'a" = ⟨[10, 39, 97].toArray⟩ := by decide +kernel
theorem l_qan : Str.ofString "'a\n" = ⟨[39, 97, 10].toArray⟩ := by decide +kernel
theorem l_qa : Str.ofString "'a" = ⟨[39, 97].toArray⟩ := by decide +kernel
theorem l_qb : Str.ofString "'b" = ⟨[39, 98].toArray⟩ := by decide +kernel
theorem l_ab8 : Str.ofString "'a 'b\n" = ⟨[39, 97, 32, 39, 98, 10].toArray⟩ := by decide +kernel
theorem l_0s : Str.ofString "0 " = ⟨[48, 32].toArray⟩ := by decide +kernel
theorem l_z : Str.ofString "0" = ⟨[48].toArray⟩ := by decide +kernel
section
variable {H B : AH} {ns : List Int} {i y m : Int} {a : Nat} {x6 x7 x8 x9 : Option V} {rs : List Rl} {row : List Sy}
/-- all that is known behind the rows' making -/
structure W8 (H : AH) (a : Nat) (rs : List Rl) (row : List Sy) : Prop where
  ha : H a = some (.list ((R0 rs row).map rv))
  hr : RulesOk rs
  hw : RowOk rs.length row
  h2 : 2 ≤ rs.length
  h8 : rs.length ≤ 8
  hl : row.length ≤ 5
theorem W8.g (k : W8 H a rs row) : Gd rs row := gd_of k.hr k.hw k.h8
theorem W8.s (k : W8 H a rs row) : Sml (R0 rs row) := sml_R0 k.g k.h8 (by have := k.hl; omega)
theorem W8.lastE (k : W8 H a rs row) {ρ : List (Option V)} (h3 : ρ[3]? = some (some (.ref a))) : Ev C8 ⟨ρ, H, B⟩ (.sub (.var 3) (.neg (.int 1))) (.lst ((row.map tk).map lst)) := by
  have ha := k.ha
  rw [R0_last] at ha
  exact ev_sub (ev_var h3) (ev_neg ev_int) (sb_lastR ha)
theorem W8.lenE (k : W8 H a rs row) {ρ : List (Option V)} (h3 : ρ[3]? = some (some (.ref a))) : Ev C8 ⟨ρ, H, B⟩ (.len (.sub (.var 3) (.neg (.int 1)))) (.int row.length) := ev_len (k.lastE h3) (by show some _ = _; rw [List.length_map, List.length_map])
/-- way 0 -/
theorem way0 (k : W8 H a rs row) : Ev C8 ⟨S8 ns rs.length i a y m x6 x7 (some (bookV rs row)) x9, H, B⟩ (.and (.isinst (.var 8) .tuple) (.and (.cmp (.len (.sub (.var 8) (.int 0))) (.one .eq (.var 1))) (.cmp (.len (.sub (.var 8) (.int 1))) (.one .eq (.len (.sub (.var 3) (.neg (.int 1)))))))) (.bool true) := by
  have e := ev_and (C := C8) (st := ⟨S8 ns rs.length i a y m x6 x7 (some (bookV rs row)) x9, H, B⟩) (ev_isi (ev_var (i := 8) rfl) (t := .tuple) (b := true) rfl) fun _ => ev_and (ev_cmp (ev_len (n := rs.length) (ev_sub (ev_var (i := 8) rfl) ev_int (sb_tup (n := 0) rfl)) (by show some _ = _; rw [List.length_map])) (ec_one (ev_var (i := 1) rfl) cm_eq)) fun _ => ev_cmp (ev_len (n := row.length) (ev_sub (ev_var (i := 8) rfl) ev_int (sb_tup (n := 1) rfl)) (by show some _ = _; rw [List.length_map])) (ec_one (k.lenE rfl) cm_eq)
  rw [decide_eq_true rfl, decide_eq_true rfl] at e
  exact e
theorem way1 : Ev C8 ⟨S8 ns rs.length i a y m x6 x7 x8 x9, H, B⟩ (.call "_law_refused" (.cons (.sub (.list (.cons .none (.cons (.int 5) (.cons (.list (.cons (.str (Str.ofString "'a")) .nil)) (.cons (.tup (.cons (.str (Str.ofString "'a")) (.cons (.str (Str.ofString "'b")) .nil))) (.cons (.bool true) (.cons (.list .nil) .nil))))))) (.bin .mod (.var 5) (.int 6))) .nil)) (.bool true) := by
  obtain ⟨w, hw, ew⟩ := ev_pick (C := C8) (st := ⟨S8 ns rs.length i a y m x6 x7 x8 x9, H, B⟩) (a := .var 5) (i := m) (m := 6) (evs_cons ev_none (evs_cons (ev_int (i := 5)) (evs_cons (ev_list (evs_cons (ev_str (s := Str.ofString "'a")) evs_nil) rfl) (evs_cons (ev_tup (evs_cons (ev_str (s := Str.ofString "'a")) (evs_cons (ev_str (s := Str.ofString "'b")) evs_nil)) rfl) (evs_cons (ev_bool (b := true)) (evs_cons (ev_list evs_nil rfl) evs_nil)))))) rfl rfl (by omega) (ev_var rfl)
  refine ev_call (evs_cons ew evs_nil) (ca_refused8 (d := 23) has8.toHas8c ?_)
  simp only [List.mem_cons, List.not_mem_nil, or_false] at hw
  rcases hw with rfl | rfl | rfl | rfl | rfl | rfl <;> exact bad_notext has8.toHas8b rfl nofun
theorem way2a (k : W8 H a rs row) : Ev C8 ⟨S8 ns rs.length i a y m x6 x7 x8 x9, H, B⟩ (.and (.call "_law_refused" (.cons (.call "_law_line" (.cons (.call "_law_last" (.cons (.var 3) (.cons (.bin .fdiv (.var 5) (.int 3)) (.cons (.var 1) .nil)))) .nil)) .nil)) (.call "_law_cut" (.cons (.var 3) .nil))) (.bool true) :=
  ev_and (p := true) (q := true) (ev_rl (evp_call (evs_cons (ev_var rfl) (evs_cons (ev_fdiv (ev_var rfl) ev_int (by omega)) (evs_cons (ev_var rfl) evs_nil))) (cap_last (d := 28) has8 k.hr k.hw k.h8 k.hl k.ha))) fun _ => ev_call (evs_cons (ev_var rfl) evs_nil) (ca_cut8 (d := 22) has8 k.hr k.hw k.h8 k.hl k.ha)
theorem way2b (k : W8 H a rs row) : Ev C8 ⟨S8 ns rs.length i a y m x6 x7 x8 x9, H, B⟩ (.call "_law_refused" (.cons (.call "_law_line" (.cons (.call "_law_spoilt" (.cons (.var 3) (.cons (.bin .fdiv (.var 5) (.int 3)) (.cons (.var 1) .nil)))) .nil)) .nil)) (.bool true) :=
  ev_rl (evp_call (evs_cons (ev_var rfl) (evs_cons (ev_fdiv (ev_var rfl) ev_int (by omega)) (evs_cons (ev_var rfl) evs_nil))) (cap_spoilt (d := 28) has8 k.hr k.hw k.h8 k.h2 k.hl k.ha))
theorem setR {k : Nat} {p : List (List Nat)} : ((R0 rs row).map rv).set k (rv p) = ((R0 rs row).set k p).map rv := by rw [List.map_set]
/-- one row is another one, and the line is refused -/
theorem way_set {k : Nat} {v : E} {p : List (List Nat)} {y9 : Option V} (w : W8 H a rs row) (hB : B a = none) (hk : k < rs.length) (hv : Ev C8 ⟨S8 ns rs.length i a y m (some (.int k)) x7 x8 y9, H, B⟩ v (rv p)) (hs : SmR p) (hp : Pr Nk [] [] (line ((rs.take k).map rtx ++ p :: ((rs.drop (k + 1)).map rtx ++ [row.map tk])))) {Q : Fl → St → Prop} {X : String → St → Prop} (q : ∀ st, st.H = H.upd a (.list (((R0 rs row).set k p).map rv)) → Q (.ret (.bool true)) st) :
    WB C8 (.cons (.setitem (.var 3) (.var 6) v) (.cons (.ret (.call "_law_refused" (.cons (.call "_law_line" (.cons (.var 3) .nil)) .nil))) .nil)) ⟨S8 ns rs.length i a y m (some (.int k)) x7 x8 y9, H, B⟩ Q X := by
  have hl : k < ((R0 rs row).map rv).length := by simp [R0]; omega
  refine w_set hv rfl (ev_var rfl) w.ha hB hl ?_
  rw [setR]
  refine w_ret (w := .bool true) (ev_ref (ev_ln (ev_var rfl) upd_eq ?_) ?_ ?_) (q _ rfl)
  · rw [R0_set hk]; exact sml_one w.g w.h8 (by have := w.hl; omega) hs
  · rw [R0_set hk]; have := sml_len (sml_one (k := k) w.g w.h8 (by have := w.hl; omega) hs); omega
  · rw [R0_set hk]; exact hp
theorem rowE {k : Nat} {x : Option V} (w : W8 H a rs row) (hk : k < rs.length) : Ev C8 ⟨S8 ns rs.length i a y m (some (.int k)) x7 x8 x, H, B⟩ (.sub (.var 3) (.var 6)) (rv (rtx rs[k])) := ev_sub (ev_var rfl) (ev_var rfl) (sb_R w.ha (R0_at hk))
theorem smr_of {p : List (List Nat)} (h : p.length ≤ 20) (h2 : p.all (fun t => decide (t.length ≤ 20)) = true) : SmR p := ⟨h, fun t ht => by simpa using List.all_eq_true.mp h2 t ht⟩
theorem way3 {k : Nat} (w : W8 H a rs row) (hB : B a = none) (hk : k < rs.length) {Q : Fl → St → Prop} {X : String → St → Prop} (q : ∀ st p, st.H = H.upd a (.list (((R0 rs row).set k p).map rv)) → Q (.ret (.bool true)) st) :
    WB C8 (.cons (.setitem (.var 3) (.var 6) (.bin .add (.slice (.sub (.var 3) (.var 6)) .none (.int 1)) (.slice (.list (.cons (.str (Str.ofString "'a")) (.cons (.str (Str.ofString "'b")) .nil))) .none (.bin .mul (.int 2) (.bin .mod (.var 5) (.int 2)))))) (.cons (.ret (.call "_law_refused" (.cons (.call "_law_line" (.cons (.var 3) .nil)) .nil))) .nil)) ⟨S8 ns rs.length i a y m (some (.int k)) x7 x8 x9, H, B⟩ Q X := by
  obtain ⟨t1, t2⟩ := w.g.r rs[k] (List.getElem_mem hk)
  obtain ⟨j, hj, _, ej⟩ := ev_modn (C := C8) (st := ⟨S8 ns rs.length i a y m (some (.int k)) x7 x8 x9, H, B⟩) (m := 2) (a := .var 5) (by omega) (ev_var rfl)
  have e2 := ev_take (C := C8) (k := 2 * j) (ev_list (evs_cons (ev_lit l_qa) (evs_cons (ev_lit l_qb) evs_nil)) rfl) (ofi (ev_mul (ev_int (i := 2)) ej (.inl (by decide))) (by omega)) (by show 2 * j ≤ 2; omega)
  have e1 := ev_take (C := C8) (hi := .int 1) (k := 1) (rowE (ns := ns) (i := i) (y := y) (m := m) (x7 := x7) (x8 := x8) (x := x9) (B := B) w hk) ev_int (by show 1 ≤ 2; omega)
  have hl1 := t1.2
  rcases (show j = 0 ∨ j = 1 by omega) with rfl | rfl
  · exact way_set (p := [tk rs[k].1]) w hB hk (ev_catl e1 e2 (by show (1 : Nat) ≤ _; decide)) (smr_of (by simp) (by simp; omega)) (nk_short w.g (by simp) t1) fun st h => q st _ h
  · exact way_set (p := [tk rs[k].1, [39, 97], [39, 98]]) w hB hk (ev_catl e1 e2 (by show (3 : Nat) ≤ _; decide)) (smr_of (by simp) (by simp; omega)) (nk_long w.g (by simp) t1) fun st h => q st _ h
theorem way4 (w : W8 H a rs row) : Ev C8 ⟨S8 ns rs.length i a y m x6 (some (lst (line (R0 rs row)))) x8 x9, H, B⟩ (.call "_law_refused" (.cons (.sub (.list (.cons (.bin .add (.str (Str.ofString " ")) (.var 7)) (.cons (.bin .add (.str (Str.ofString "\n")) (.var 7)) (.cons (.bin .add (.str (Str.ofString " ")) (.var 7)) (.cons (.bin .add (.str (Str.ofString "'a\n")) (.var 7)) .nil))))) (.bin .mod (.var 5) (.int 4))) .nil)) (.bool true) := by
  have ll := sml_len w.s
  obtain ⟨z, hz, ez⟩ := ev_pick (C := C8) (st := ⟨S8 ns rs.length i a y m x6 (some (lst (line (R0 rs row)))) x8 x9, H, B⟩) (a := .var 5) (i := m) (m := 4) (evs_cons (ev_catT ev_sp (ev_var (i := 7) rfl) (by simp; omega)) (evs_cons (ev_catT ev_nl (ev_var (i := 7) rfl) (by simp; omega)) (evs_cons (ev_catT ev_sp (ev_var (i := 7) rfl) (by simp; omega)) (evs_cons (ev_catT (ev_lit l_qan) (ev_var (i := 7) rfl) (by simp; omega)) evs_nil)))) rfl rfl (by omega) (ev_var rfl)
  have : ∃ L, z = lst L ∧ L.length < 1000000 ∧ Pr Nk [] [] L := by
    simp only [List.mem_cons, List.not_mem_nil, or_false] at hz
    rcases hz with rfl | rfl | rfl | rfl
    · exact ⟨_, rfl, by simp; omega, nk_front 32 _ d32 (by omega)⟩
    · exact ⟨_, rfl, by simp; omega, nk_front 10 _ d10 (by omega)⟩
    · exact ⟨_, rfl, by simp; omega, nk_front 32 _ d32 (by omega)⟩
    · exact ⟨_, rfl, by simp; omega, nk_one _⟩
  obtain ⟨L, rfl, h1, h2⟩ := this
  exact ev_ref ez h1 h2
theorem way4a (w : W8 H a rs row) (h : row.length ≠ 2) : Ev C8 ⟨S8 ns rs.length i a y m x6 (some (lst (line (R0 rs row)))) x8 x9, H, B⟩ (.call "_law_refused" (.cons (.bin .add (.var 7) (.str (Str.ofString "\n'a"))) .nil)) (.bool true) := by
  have ll := sml_len w.s
  exact ev_ref (ev_catT (ev_var rfl) (ev_lit l_nqa) (by simp; omega)) (by simp; omega) (nk_nl w.g h _)
theorem way53 {k : Nat} (w : W8 H a rs row) (hB : B a = none) (hk : k < rs.length) {Q : Fl → St → Prop} {X : String → St → Prop} (q : ∀ st p, st.H = H.upd a (.list (((R0 rs row).set k p).map rv)) → Q (.ret (.bool true)) st) :
    WB C8 (.cons (.setitem (.var 3) (.var 6) (.sub (.list (.cons (.list (.cons (.bin .add (.sub (.var 9) (.int 0)) (.str (Str.ofString " "))) (.cons (.sub (.var 9) (.int 1)) .nil))) (.cons (.list (.cons (.bin .add (.sub (.var 9) (.int 0)) (.sub (.var 9) (.int 1))) .nil)) (.cons (.list (.cons (.bin .add (.str (Str.ofString " ")) (.sub (.var 9) (.int 0))) (.cons (.sub (.var 9) (.int 1)) .nil))) .nil)))) (.bin .mod (.bin .fdiv (.var 5) (.int 24)) (.int 3)))) (.cons (.ret (.call "_law_refused" (.cons (.call "_law_line" (.cons (.var 3) .nil)) .nil))) .nil)) ⟨S8 ns rs.length i a y m (some (.int k)) x7 x8 (some (rv (rtx rs[k]))), H, B⟩ Q X := by
  obtain ⟨t1, t2⟩ := w.g.r rs[k] (List.getElem_mem hk)
  have ok := w.hr k rs[k] (List.getElem?_eq_getElem hk)
  have l1 := t1.2
  have l2 := t2.2
  have p0 : Ev C8 ⟨S8 ns rs.length i a y m (some (.int k)) x7 x8 (some (rv (rtx rs[k]))), H, B⟩ (.sub (.var 9) (.int 0)) (lst (tk rs[k].1)) := ev_sub (ev_var rfl) ev_int (sb_rv (k := 0) rfl)
  have p1 : Ev C8 ⟨S8 ns rs.length i a y m (some (.int k)) x7 x8 (some (rv (rtx rs[k]))), H, B⟩ (.sub (.var 9) (.int 1)) (lst (tk rs[k].2)) := ev_sub (ev_var rfl) ev_int (sb_rv (k := 1) rfl)
  obtain ⟨z, hz, ez⟩ := ev_pick (C := C8) (a := .bin .fdiv (.var 5) (.int 24)) (i := m.fdiv 24) (m := 3) (vs := [rv [tk rs[k].1 ++ [32], tk rs[k].2], rv [tk rs[k].1 ++ tk rs[k].2], rv [[32] ++ tk rs[k].1, tk rs[k].2]]) (evs_cons (ev_list (evs_cons (ev_catT p0 ev_sp (by simp; omega)) (evs_cons p1 evs_nil)) rfl) (evs_cons (ev_list (evs_cons (ev_catT p0 p1 (by omega)) evs_nil) rfl) (evs_cons (ev_list (evs_cons (ev_catT ev_sp p0 (by simp; omega)) (evs_cons p1 evs_nil)) rfl) evs_nil))) rfl rfl (by omega) (ev_fdiv (ev_var rfl) ev_int (by omega))
  simp only [List.mem_cons, List.not_mem_nil, or_false] at hz
  rcases hz with rfl | rfl | rfl
  · exact way_set (p := [tk rs[k].1 ++ [32], tk rs[k].2]) w hB hk ez (smr_of (by simp) (by simp; omega)) (nk_b0 w.g (by simp) t1) fun st h => q st _ h
  · exact way_set (p := [tk rs[k].1 ++ tk rs[k].2]) w hB hk ez (smr_of (by simp) (by simp; omega)) (nk_b1 w.g (by simp) ok.1 ok.2 (by have := w.h8; omega)) fun st h => q st _ h
  · exact way_set (p := [[32] ++ tk rs[k].1, tk rs[k].2]) w hB hk ez (smr_of (by simp) (by simp; omega)) (nk_b2 w.g (by simp)) fun st h => q st _ h
theorem way54 (w : W8 H a rs row) : Ev C8 ⟨S8 ns rs.length i a y m x6 (some (lst (line (R0 rs row)))) x8 x9, H, B⟩ (.and (.call "_law_refused" (.cons (.bin .add (.var 7) (.str (Str.ofString " "))) .nil)) (.or (.cmp (.len (.sub (.var 3) (.neg (.int 1)))) (.one .eq (.int 2))) (.call "_law_refused" (.cons (.bin .add (.var 7) (.str (Str.ofString "\n"))) .nil)))) (.bool true) := by
  have ll := sml_len w.s
  have e := ev_and (ev_ref (ev_catT (ev_var (C := C8) (ρ := S8 ns rs.length i a y m x6 (some (lst (line (R0 rs row)))) x8 x9) (H := H) (B := B) (i := 7) rfl) ev_sp (by simp; omega)) (by simp; omega) (nk_sp w.g)) fun _ => ev_or (q := true) (ev_cmp (w.lenE rfl) (ec_one (ev_int (i := 2)) cm_eq)) fun e => ev_ref (ev_catT (ev_var (i := 7) rfl) ev_nl (by simp; omega)) (by simp; omega) (nk_nl w.g (by simp at e; omega) [])
  rw [Bool.or_true] at e
  exact e
theorem way55 : Ev C8 ⟨S8 ns rs.length i a y m x6 x7 x8 x9, H, B⟩ (.call "_law_refused" (.cons (.sub (.list (.cons (.bin .mul (.str (Str.ofString "'a 'b\n")) (.int 601)) (.cons (.bin .add (.bin .add (.str (Str.ofString "'a 'b\n")) (.bin .mul (.str (Str.ofString "0 ")) (.int 2000))) (.str (Str.ofString "0"))) .nil))) (.bin .mod (.bin .fdiv (.var 5) (.int 6)) (.int 2))) .nil)) (.bool true) := by
  have rl : ∀ {n : Nat} {l : List Nat}, (repL n l).length = n * l.length := fun {n l} => by unfold repL; rw [List.length_flatten, List.map_replicate, List.sum_replicate_nat]
  obtain ⟨z, hz, ez⟩ := ev_pick (C := C8) (st := ⟨S8 ns rs.length i a y m x6 x7 x8 x9, H, B⟩) (a := .bin .fdiv (.var 5) (.int 6)) (i := m.fdiv 6) (m := 2) (evs_cons (ev_mulT (n := 601) (ev_lit l_ab8) ev_int (by omega) (by decide)) (evs_cons (ev_catT (ev_catT (ev_lit l_ab8) (ev_mulT (n := 2000) (ev_lit l_0s) ev_int (by omega) (by decide)) (by rw [rl]; decide)) (ev_lit l_z) (by rw [List.length_append, rl]; decide)) evs_nil)) rfl rfl (by omega) (ev_fdiv (ev_var rfl) ev_int (by omega))
  simp only [List.mem_cons, List.not_mem_nil, or_false] at hz
  rcases hz with rfl | rfl
  · exact ev_ref ez (by rw [rl]; decide) nk_601
  · exact ev_ref ez (by rw [List.length_append, List.length_append, rl]; decide) nk_2001
theorem way56 (w : W8 H a rs row) : Ev C8 ⟨S8 ns rs.length i a y m x6 x7 x8 x9, H, B⟩ (.call "_law_refused" (.cons (.bin .add (.call "_law_line" (.cons (.bin .add (.slice (.var 3) .none (.neg (.int 1))) (.list (.cons (.list (.cons (.str (Str.ofString "'a")) .nil)) (.cons (.list (.cons (.str (Str.ofString "'b")) .nil)) .nil)))) .nil)) (.sub (.list (.cons (.str (Str.ofString " ")) (.cons (.str (Str.ofString "")) (.cons (.str (Str.ofString "\n")) .nil)))) (.bin .mod (.var 5) (.int 3)))) .nil)) (.bool true) := by
  have h8 := w.h8
  have ha := w.ha
  rw [R0_last] at ha
  have e1 := ev_catL (C := C8) (st := ⟨S8 ns rs.length i a y m x6 x7 x8 x9, H, B⟩) (A := rs.map rtx) (B := [[[39, 97]], [[39, 98]]]) (ev_initR (ev_var (i := 3) rfl) ha) (ev_list (evs_cons (ev_list (evs_cons (ev_lit l_qa) evs_nil) rfl) (evs_cons (ev_list (evs_cons (ev_lit l_qb) evs_nil) rfl) evs_nil)) rfl) (by simp; omega)
  have hs : Sml (rs.map rtx ++ [[[39, 97]], [[39, 98]]]) := sml_app (by simp; omega) (smr_pairs w.g) fun r hr => by
    rcases List.mem_cons.mp hr with rfl | hr
    · exact smr_of (by decide) (by decide)
    · rw [List.mem_singleton.mp hr]; exact smr_of (by decide) (by decide)
  have ll := sml_len hs
  have e2 := ev_call (evs_cons e1 evs_nil) (ca_line (d := 28) has8 hs rfl)
  obtain ⟨z, hz, ez⟩ := ev_pick (C := C8) (st := ⟨S8 ns rs.length i a y m x6 x7 x8 x9, H, B⟩) (a := .var 5) (i := m) (m := 3) (vs := [[32], [], [10]].map lst) (evs_cons ev_sp (evs_cons ev_e (evs_cons ev_nl evs_nil))) rfl rfl (by omega) (ev_var rfl)
  obtain ⟨t, ht, rfl⟩ := List.mem_map.mp hz
  have hl : t.length ≤ 1 := by
    simp only [List.mem_cons, List.not_mem_nil, or_false] at ht
    rcases ht with rfl | rfl | rfl <;> decide
  exact ev_ref (ev_catT e2 ez (by omega)) (by rw [List.length_append]; omega) (nk_more w.g)
end
theorem main08 (ns : List Int) (h : ns.length ≤ 63) : (cxN tbl gtab [] 30).call "law" [.lst (ns.map V.int)] (fun _ => none) (fun v => v = .bool true) (fun _ => False) := by
  refine call_of (fn := F_law) rfl rfl (by decide) ?_
  have e1 : EvP C8 ⟨[some (.lst (ns.map V.int)), none, none, none, none, none, none, none, none, none], fun _ => none, fun _ => none⟩ (.bin .add (.int 2) (.bin .mod (.call "_law_cell_at" (.cons (.var 0) (.cons (.int 1) .nil))) (.int 7))) (fun w => ∃ n : Nat, 2 ≤ n ∧ n ≤ 8 ∧ w = .int n) := fun Q X q => by
    have e0 := evp_cellk (cls := []) (d := 28) (ρ := [some (.lst (ns.map V.int)), none, none, none, none, none, none, none, none, none]) (H' := fun _ => none) (B := fun _ => none) (e := .int 1) (k := 1) has8 rfl ev_int
    refine e0 _ _ ?_
    rintro w ⟨i, rfl⟩
    have hf := fm i (b := 7) (by omega)
    exact ⟨by omega, q _ ⟨2 + (i.fmod 7).toNat, by omega, by omega, by congr 1; omega⟩⟩
  refine w_asgP e1 rfl ?_
  rintro w ⟨n, n2, n8, rfl⟩
  refine w_asgP (evp_cellk (d := 28) (k := 0) has8 rfl ev_int) rfl ?_
  rintro w ⟨i, rfl⟩
  refine w_callO (PP := isRows n) (evs_cons (ev_var rfl) (evs_cons (ev_var rfl) evs_nil)) rfl (fun Q' X' q => co_rows (d := 27) has8 n8 q) ?_
  rintro ws ⟨rs, row, rfl, hr, hw, hl, rfl⟩ a _ hB
  have W : W8 (AH.upd (fun _ => none) a (.list ((R0 rs row).map rv))) a rs row := ⟨upd_eq, hr, hw, n2, n8, hl⟩
  generalize AH.upd (fun _ => none) a (.list ((R0 rs row).map rv)) = H at W ⊢
  obtain ⟨y, hy, ey⟩ := ev_pick (C := C8) (st := ⟨[some (.lst (ns.map V.int)), some (.int rs.length), some (.int i), some (.ref a), none, none, none, none, none, none], H, fun _ => none⟩) (a := .var 2) (i := i) (m := 9) (vs := [0, 1, 2, 3, 4, 5, 2, 5, 2].map V.int) (evs_cons ev_int (evs_cons ev_int (evs_cons ev_int (evs_cons ev_int (evs_cons ev_int (evs_cons ev_int (evs_cons ev_int (evs_cons ev_int (evs_cons ev_int evs_nil))))))))) rfl rfl (by omega) (ev_var rfl)
  obtain ⟨y, _, rfl⟩ := List.mem_map.mp hy
  refine w_asg ey rfl ?_
  refine w_asg (ev_fdiv (ev_var rfl) ev_int (by omega)) rfl ?_
  generalize i.fdiv 9 = m
  have ok : ∀ st : St, PK (fun _ => none) (fun v => v = .bool true) (.ret (.bool true)) st := fun ⟨ρ, H', B'⟩ => pk_of rfl rfl
  have ok2 : ∀ (r : Bl) (X : String → St → Prop) (st : St), Kn C8 r (PK (fun _ => none) (fun v => v = .bool true)) X (.ret (.bool true)) st := fun r X st => ok st
  have ok3 : ∀ (r r' : Bl) (X X' : String → St → Prop) (st : St), Kn C8 r' (Kn C8 r (PK (fun _ => none) (fun v => v = .bool true)) X) X' (.ret (.bool true)) st := fun r r' X X' st => ok st
  refine w_if (decide (y = 0)) (ev_cmp (ev_var rfl) (ec_one ev_int cm_eq)) (fun _ => ?_) fun _ => kn_nil ?_
  · have ll := sml_len W.s
    refine w_asg (ev_call (evs_cons (ev_ln (ev_var rfl) W.ha W.s) evs_nil) (ca_read (d := 24) has8.toHas8b hr hw n8 (by omega) W.g (by omega))) rfl ?_
    exact w_ret (way0 W) (ok2 _ _ _)
  refine w_if (decide (y = 1)) (ev_cmp (ev_var rfl) (ec_one ev_int cm_eq)) (fun _ => w_ret (way1 (rs := rs)) (ok2 _ _ _)) fun _ => kn_nil ?_
  refine w_if (decide (y = 2) && decide (m.fmod 3 = 1)) (ev_and (ev_cmp (ev_var rfl) (ec_one ev_int cm_eq)) fun _ => ev_cmp (ev_mod (ev_var rfl) ev_int (by omega)) (ec_one ev_int cm_eq)) (fun _ => w_ret (way2a W) (ok2 _ _ _)) fun _ => kn_nil ?_
  refine w_if (decide (y = 2)) (ev_cmp (ev_var rfl) (ec_one ev_int cm_eq)) (fun _ => w_ret (way2b W) (ok2 _ _ _)) fun _ => kn_nil ?_
  obtain ⟨k, hk, ek⟩ := ev_modm (C := C8) (st := ⟨S8 ns rs.length i a y m none none none none, H, fun _ => none⟩) (i := m.fdiv 4) (m := rs.length) (a := .bin .fdiv (.var 5) (.int 4)) (e := .var 1) (by omega) (ev_fdiv (ev_var rfl) ev_int (by omega)) (ev_var rfl)
  refine w_asg ek rfl ?_
  refine w_if (decide (y = 3)) (ev_cmp (ev_var rfl) (ec_one ev_int cm_eq)) (fun _ => way3 (ns := ns) (i := i) (y := y) (m := m) W hB hk fun st p _ => ok2 _ _ st) fun _ => kn_nil ?_
  refine w_asg (ev_ln (ev_var rfl) W.ha W.s) rfl ?_
  refine w_if (decide (y = 4)) (ev_cmp (ev_var rfl) (ec_one ev_int cm_eq)) (fun _ => ?_) fun _ => kn_nil ?_
  · refine w_if (decide (m.fmod 4 = 2) && !decide ((row.length : Int) = 2)) (ev_and (ev_cmp (ev_mod (ev_var rfl) ev_int (by omega)) (ec_one ev_int cm_eq)) fun _ => ev_cmp (W.lenE rfl) (ec_one ev_int cm_ne)) (fun e => w_ret (way4a W (by simp at e; omega)) (ok3 _ _ _ _ _)) fun _ => kn_nil (w_ret (way4 W) (ok2 _ _ _))
  refine w_if (decide (m.fmod 6 = 3)) (ev_cmp (ev_mod (ev_var rfl) ev_int (by omega)) (ec_one ev_int cm_eq)) (fun _ => ?_) fun _ => kn_nil ?_
  · refine w_asg (rowE W hk) rfl ?_
    exact way53 (ns := ns) (i := i) (y := y) (m := m) W hB hk fun st p _ => ok2 _ _ st
  refine w_if (decide (m.fmod 6 = 4)) (ev_cmp (ev_mod (ev_var rfl) ev_int (by omega)) (ec_one ev_int cm_eq)) (fun _ => w_ret (way54 W) (ok2 _ _ _)) fun _ => kn_nil ?_
  refine w_if (decide (m.fmod 6 = 5)) (ev_cmp (ev_mod (ev_var rfl) ev_int (by omega)) (ec_one ev_int cm_eq)) (fun _ => w_ret (way55 (rs := rs)) (ok2 _ _ _)) fun _ => kn_nil ?_
  exact w_ret (way56 W) (ok _)
end Lib
namespace L08
open PySem Mine
theorem main (ns : List Int) (h : ns.length ≤ 63) : (cxN tbl gtab [] 30).call "law" [.lst (ns.map V.int)] (fun _ => none) (fun v => v = .bool true) (fun _ => False) := Mine.Lib.main08 ns h
end L08
end

end Mine

section
set_option autoImplicit false
namespace Mine
open PySem

/-- what a block's names are: the frame's names and their numbers, how many are in use, the table -/
structure Sc where
  σ : List (Str × Nat)
  used : Nat
  names : List (Str × NameKind)
  fns : List String
  xs : List String
  hot : Bool
  hots : List String
  dead : Bool

noncomputable def opOf : Bop → Operator
  | .add => .Add | .sub => .Sub | .mul => .Mult | .fdiv => .FloorDiv | .mod => .Mod | .pow => .Pow
noncomputable def copOf : Cop → CmpOp
  | .eq => .Eq | .ne => .NotEq | .lt => .Lt | .le => .LtE | .gt => .Gt | .ge => .GtE | .is => .Is | .isnot => .IsNot | .isin => .In | .notin => .NotIn
noncomputable def tyName : Ty → String
  | .int => "int" | .bool => "bool" | .str => "str" | .tuple => "tuple" | .list => "list" | .own c => c | .ValueError => "ValueError"

/-- what a handler's own suite, and what it calls, may not use -/
noncomputable def coldB : List String := ["sum", "max", "min", "reversed", "enumerate", "zip"]
noncomputable def hotOk (c : Sc) (n : String) : Bool := !c.hot || (!coldB.contains n && (!c.fns.contains n || (c.hots.contains n && !c.dead)))
noncomputable def isGlob (c : Sc) (x : Str) (n : String) : Bool := decide (x = Str.ofString n) && decide (c.names.lookup x = some .globalImplicit) && !(x == ("__debug__" : Str)) && hotOk c n
noncomputable def isVar (c : Sc) (x : Str) (i : Nat) : Bool := decide (c.σ.lookup x = some i) && !(x == ("__debug__" : Str))
noncomputable def noStar (x : Expr) : Bool := by cases x with
  | Starred => exact false
  | _ => exact true
/-- no slice, and no written super() -/
noncomputable def plainX (x : Expr) : Bool := by cases x with
  | Starred => exact false
  | Slice => exact false
  | _ => exact true

/-- the names that a target of a comprehension binds, in the comprehension's own table -/
noncomputable def tgNames : Expr → Option (List Str)
  | .Name x _ => some [x]
  | .Tuple [.Name x _, .Name y _] _ _ => some [x, y]
  | _ => none
noncomputable def tgIs (n : Nat) (t : Tg) (xs : List Str) : Bool := by cases t with
  | var i => exact i == n && xs.length == 1
  | tup is => exact false
noncomputable def inner (c : Sc) (xs : List Str) (names : List (Str × NameKind)) : Sc :=
  ⟨(xs.zip (List.range' c.used xs.length)) ++ c.σ.filter (fun p => decide (names.lookup p.1 = some .free)), c.used + xs.length, names, c.fns, c.xs, c.hot, c.hots, c.dead⟩
/-- a comprehension's own table: its targets, names of the frame, globals -/
noncomputable def tableOk (c : Sc) (xs : List Str) (sc : Scope) : Bool :=
  decide (sc.kind = .function) && xs.all (fun x => decide (sc.names.lookup x = some .local) && !(x == (".0" : Str))) && decide xs.Nodup &&
  sc.names.all (fun p => match p.2 with
    | .local => xs.contains p.1 || p.1 == (".0" : Str)
    | .free => decide (sc.names.lookup p.1 = some .free) && (c.σ.lookup p.1).isSome && (decide (c.names.lookup p.1 = some .cell) || decide (c.names.lookup p.1 = some .free)) && !(p.1 == ("__classdict__" : Str))
    | .globalImplicit => true
    | _ => false) && decide (sc.names.map (·.1)).Nodup && !c.dead

noncomputable def canStore (c : Sc) (x : Str) : Bool := decide (c.names.lookup x = some .local) || decide (c.names.lookup x = some .cell)
noncomputable def isSetX (x : Expr) : Bool := by cases x with
  | Set => exact true
  | _ => exact false
noncomputable def listable (x : It) : Bool := by cases x with
  | _ => exact false
noncomputable def walk (x : It) : Bool := by cases x with
  | rev => exact false
  | _ => exact true
noncomputable def plainTy (x : Ty) : Bool := by cases x with
  | own => exact false
  | ValueError => exact false
  | _ => exact true
noncomputable def isTupX (x : Expr) : Bool := by cases x with
  | Tuple => exact true
  | _ => exact false
noncomputable def isEZ (x : It) : Bool := by cases x with
  | enum => exact true
  | zip => exact true
  | _ => exact false
noncomputable def ezOk (it : It) (x : Expr) : Bool := walk it && (!isEZ it || isTupX x)
theorem ezOk_inv {it : It} {x : Expr} (h : ezOk it x = true) (e : isEZ it = true) : isTupX x = true := by
  have h := ((Bool.and_eq_true _ _).mp h).2
  rw [e] at h
  exact h
theorem ezOk_walk {it : It} {x : Expr} (h : ezOk it x = true) : walk it = true := ((Bool.and_eq_true _ _).mp h).1
noncomputable def isNoneE (x : E) : Bool := by cases x with
  | none => exact true
  | _ => exact false

/-! shapes of the program's expressions -/
theorem ff {P : Prop} (h : false = true) : P := Bool.noConfusion h
/-- of this make -/
noncomputable def Is {α β : Type} (mk : α → β) (x : β) : Type := { q : α // x = mk q }
noncomputable def onO {α : Type} (o : Option α) (f : α → Bool) : Bool := by cases o with
  | none => exact false
  | some a => exact f a
theorem onO_inv {α : Type} {o : Option α} {f : α → Bool} (h : onO o f = true) : ∃ a, f a = true := by
  cases o with
  | none => exact ff h
  | some a => exact ⟨a, h⟩
noncomputable def on1 {α β1 : Type} (o : Option α) (g1 : α → β1) (f : β1 → Bool) : Bool := onO o fun q => f (g1 q)
theorem on1_inv {α β1 : Type} {o : Option α} {g1 : α → β1} {f : β1 → Bool} (h : on1 o g1 f = true) : ∃ q, f (g1 q) = true := onO_inv h
noncomputable def on2 {α β1 β2 : Type} (o : Option α) (g1 : α → β1) (g2 : α → β2) (f : β1 → β2 → Bool) : Bool := onO o fun q => f (g1 q) (g2 q)
theorem on2_inv {α β1 β2 : Type} {o : Option α} {g1 : α → β1} {g2 : α → β2} {f : β1 → β2 → Bool} (h : on2 o g1 g2 f = true) : ∃ q, f (g1 q) (g2 q) = true := onO_inv h
noncomputable def on3 {α β1 β2 β3 : Type} (o : Option α) (g1 : α → β1) (g2 : α → β2) (g3 : α → β3) (f : β1 → β2 → β3 → Bool) : Bool := onO o fun q => f (g1 q) (g2 q) (g3 q)
theorem on3_inv {α β1 β2 β3 : Type} {o : Option α} {g1 : α → β1} {g2 : α → β2} {g3 : α → β3} {f : β1 → β2 → β3 → Bool} (h : on3 o g1 g2 g3 f = true) : ∃ q, f (g1 q) (g2 q) (g3 q) = true := onO_inv h
noncomputable def on4 {α β1 β2 β3 β4 : Type} (o : Option α) (g1 : α → β1) (g2 : α → β2) (g3 : α → β3) (g4 : α → β4) (f : β1 → β2 → β3 → β4 → Bool) : Bool := onO o fun q => f (g1 q) (g2 q) (g3 q) (g4 q)
theorem on4_inv {α β1 β2 β3 β4 : Type} {o : Option α} {g1 : α → β1} {g2 : α → β2} {g3 : α → β3} {g4 : α → β4} {f : β1 → β2 → β3 → β4 → Bool} (h : on4 o g1 g2 g3 g4 f = true) : ∃ q, f (g1 q) (g2 q) (g3 q) (g4 q) = true := onO_inv h
noncomputable def aConst (x : Expr) : Option (Is (fun q : Const × Nat × Pos => Expr.Constant (q.1) (q.2.1) (q.2.2)) x) := by cases x with
  | Constant v k p => exact some ⟨(v, k, p), rfl⟩
  | _ => exact none
noncomputable def onConst (x : Expr) (f : Const → Bool) : Bool := on1 (aConst x) (fun q => q.1.1) f
noncomputable def aName (x : Expr) : Option (Is (fun q : Str × Pos => Expr.Name (q.1) (q.2)) x) := by cases x with
  | Name y p => exact some ⟨(y, p), rfl⟩
  | _ => exact none
noncomputable def onName (x : Expr) (f : Str → Bool) : Bool := on1 (aName x) (fun q => q.1.1) f
noncomputable def aBin (x : Expr) : Option (Is (fun q : Expr × Operator × Expr × Pos => Expr.BinOp (q.1) (q.2.1) (q.2.2.1) (q.2.2.2)) x) := by cases x with
  | BinOp l o r p => exact some ⟨(l, o, r, p), rfl⟩
  | _ => exact none
noncomputable def onBin (x : Expr) (f : Expr → Operator → Expr → Bool) : Bool := on3 (aBin x) (fun q => q.1.1) (fun q => q.1.2.1) (fun q => q.1.2.2.1) f
noncomputable def aUn (x : Expr) : Option (Is (fun q : UnaryOp × Expr × Pos => Expr.UnaryOp (q.1) (q.2.1) (q.2.2)) x) := by cases x with
  | UnaryOp o y p => exact some ⟨(o, y, p), rfl⟩
  | _ => exact none
noncomputable def onUn (x : Expr) (f : UnaryOp → Expr → Bool) : Bool := on2 (aUn x) (fun q => q.1.1) (fun q => q.1.2.1) f
noncomputable def aBool (x : Expr) : Option (Is (fun q : BoolOp × (List Expr) × Pos => Expr.BoolOp (q.1) (q.2.1) (q.2.2)) x) := by cases x with
  | BoolOp o ys p => exact some ⟨(o, ys, p), rfl⟩
  | _ => exact none
noncomputable def onBool (x : Expr) (f : BoolOp → (List Expr) → Pos → Bool) : Bool := on3 (aBool x) (fun q => q.1.1) (fun q => q.1.2.1) (fun q => q.1.2.2) f
noncomputable def aIf (x : Expr) : Option (Is (fun q : Expr × Expr × Expr × Pos => Expr.IfExp (q.1) (q.2.1) (q.2.2.1) (q.2.2.2)) x) := by cases x with
  | IfExp y z u p => exact some ⟨(y, z, u, p), rfl⟩
  | _ => exact none
noncomputable def onIf (x : Expr) (f : Expr → Expr → Expr → Bool) : Bool := on3 (aIf x) (fun q => q.1.1) (fun q => q.1.2.1) (fun q => q.1.2.2.1) f
noncomputable def aList (x : Expr) : Option (Is (fun q : (List Expr) × Pos => Expr.List (q.1) (q.2)) x) := by cases x with
  | List xs p => exact some ⟨(xs, p), rfl⟩
  | _ => exact none
noncomputable def onList (x : Expr) (f : (List Expr) → Bool) : Bool := on1 (aList x) (fun q => q.1.1) f
noncomputable def aTup (x : Expr) : Option (Is (fun q : (List Expr) × Nat × Pos => Expr.Tuple (q.1) (q.2.1) (q.2.2)) x) := by cases x with
  | Tuple xs k p => exact some ⟨(xs, k, p), rfl⟩
  | _ => exact none
noncomputable def onTup (x : Expr) (f : (List Expr) → Bool) : Bool := on1 (aTup x) (fun q => q.1.1) f
noncomputable def aCmp (x : Expr) : Option (Is (fun q : Expr × (List CmpOp) × (List Expr) × Pos => Expr.Compare (q.1) (q.2.1) (q.2.2.1) (q.2.2.2)) x) := by cases x with
  | Compare l o r p => exact some ⟨(l, o, r, p), rfl⟩
  | _ => exact none
noncomputable def onCmp (x : Expr) (f : Expr → (List CmpOp) → (List Expr) → Bool) : Bool := on3 (aCmp x) (fun q => q.1.1) (fun q => q.1.2.1) (fun q => q.1.2.2.1) f
noncomputable def aSub (x : Expr) : Option (Is (fun q : Expr × Expr × Pos => Expr.Subscript (q.1) (q.2.1) (q.2.2)) x) := by cases x with
  | Subscript y z p => exact some ⟨(y, z, p), rfl⟩
  | _ => exact none
noncomputable def onSub (x : Expr) (f : Expr → Expr → Bool) : Bool := on2 (aSub x) (fun q => q.1.1) (fun q => q.1.2.1) f
noncomputable def aSlice (x : Expr) : Option (Is (fun q : (Option Expr) × (Option Expr) × (Option Expr) × Pos => Expr.Slice (q.1) (q.2.1) (q.2.2.1) (q.2.2.2)) x) := by cases x with
  | Slice y z u p => exact some ⟨(y, z, u, p), rfl⟩
  | _ => exact none
noncomputable def onSlice (x : Expr) (f : (Option Expr) → (Option Expr) → (Option Expr) → Bool) : Bool := on3 (aSlice x) (fun q => q.1.1) (fun q => q.1.2.1) (fun q => q.1.2.2.1) f
noncomputable def aCall (x : Expr) : Option (Is (fun q : Expr × (List Expr) × (List Keyword) × Pos => Expr.Call (q.1) (q.2.1) (q.2.2.1) (q.2.2.2)) x) := by cases x with
  | Call g xs ks p => exact some ⟨(g, xs, ks, p), rfl⟩
  | _ => exact none
noncomputable def onCall (x : Expr) (f : Expr → (List Expr) → (List Keyword) → Pos → Bool) : Bool := on4 (aCall x) (fun q => q.1.1) (fun q => q.1.2.1) (fun q => q.1.2.2.1) (fun q => q.1.2.2.2) f
noncomputable def aAttr (x : Expr) : Option (Is (fun q : Expr × Str × Pos => Expr.Attribute (q.1) (q.2.1) (q.2.2)) x) := by cases x with
  | Attribute o n p => exact some ⟨(o, n, p), rfl⟩
  | _ => exact none
noncomputable def onAttr (x : Expr) (f : Expr → Str → Pos → Bool) : Bool := on3 (aAttr x) (fun q => q.1.1) (fun q => q.1.2.1) (fun q => q.1.2.2) f
noncomputable def aLC (x : Expr) : Option (Is (fun q : Expr × (List Comprehension) × Scope × Pos => Expr.ListComp (q.1) (q.2.1) (q.2.2.1) (q.2.2.2)) x) := by cases x with
  | ListComp y gs sc p => exact some ⟨(y, gs, sc, p), rfl⟩
  | _ => exact none
noncomputable def onLC (x : Expr) (f : Expr → (List Comprehension) → Scope → Bool) : Bool := on3 (aLC x) (fun q => q.1.1) (fun q => q.1.2.1) (fun q => q.1.2.2.1) f
theorem onConst_inv {x : Expr} {f : Const → Bool} (h : onConst x f = true) : ∃ v k p, x = .Constant v k p ∧ f v = true := let ⟨q, h⟩ := on1_inv h; ⟨_, _, _, q.2, h⟩
theorem onName_inv {x : Expr} {f : Str → Bool} (h : onName x f = true) : ∃ y p, x = .Name y p ∧ f y = true := let ⟨q, h⟩ := on1_inv h; ⟨_, _, q.2, h⟩
theorem onBin_inv {x : Expr} {f : Expr → Operator → Expr → Bool} (h : onBin x f = true) : ∃ l o r p, x = .BinOp l o r p ∧ f l o r = true := let ⟨q, h⟩ := on3_inv h; ⟨_, _, _, _, q.2, h⟩
theorem onUn_inv {x : Expr} {f : UnaryOp → Expr → Bool} (h : onUn x f = true) : ∃ o y p, x = .UnaryOp o y p ∧ f o y = true := let ⟨q, h⟩ := on2_inv h; ⟨_, _, _, q.2, h⟩
theorem onBool_inv {x : Expr} {f : BoolOp → (List Expr) → Pos → Bool} (h : onBool x f = true) : ∃ o ys p, x = .BoolOp o ys p ∧ f o ys p = true := let ⟨q, h⟩ := on3_inv h; ⟨_, _, _, q.2, h⟩
theorem onIf_inv {x : Expr} {f : Expr → Expr → Expr → Bool} (h : onIf x f = true) : ∃ y z u p, x = .IfExp y z u p ∧ f y z u = true := let ⟨q, h⟩ := on3_inv h; ⟨_, _, _, _, q.2, h⟩
theorem onList_inv {x : Expr} {f : (List Expr) → Bool} (h : onList x f = true) : ∃ xs p, x = .List xs p ∧ f xs = true := let ⟨q, h⟩ := on1_inv h; ⟨_, _, q.2, h⟩
theorem onTup_inv {x : Expr} {f : (List Expr) → Bool} (h : onTup x f = true) : ∃ xs k p, x = .Tuple xs k p ∧ f xs = true := let ⟨q, h⟩ := on1_inv h; ⟨_, _, _, q.2, h⟩
theorem onCmp_inv {x : Expr} {f : Expr → (List CmpOp) → (List Expr) → Bool} (h : onCmp x f = true) : ∃ l o r p, x = .Compare l o r p ∧ f l o r = true := let ⟨q, h⟩ := on3_inv h; ⟨_, _, _, _, q.2, h⟩
theorem onSub_inv {x : Expr} {f : Expr → Expr → Bool} (h : onSub x f = true) : ∃ y z p, x = .Subscript y z p ∧ f y z = true := let ⟨q, h⟩ := on2_inv h; ⟨_, _, _, q.2, h⟩
theorem onSlice_inv {x : Expr} {f : (Option Expr) → (Option Expr) → (Option Expr) → Bool} (h : onSlice x f = true) : ∃ y z u p, x = .Slice y z u p ∧ f y z u = true := let ⟨q, h⟩ := on3_inv h; ⟨_, _, _, _, q.2, h⟩
theorem onCall_inv {x : Expr} {f : Expr → (List Expr) → (List Keyword) → Pos → Bool} (h : onCall x f = true) : ∃ g xs ks p, x = .Call g xs ks p ∧ f g xs ks p = true := let ⟨q, h⟩ := on4_inv h; ⟨_, _, _, _, q.2, h⟩
theorem onAttr_inv {x : Expr} {f : Expr → Str → Pos → Bool} (h : onAttr x f = true) : ∃ o n p, x = .Attribute o n p ∧ f o n p = true := let ⟨q, h⟩ := on3_inv h; ⟨_, _, _, q.2, h⟩
theorem onLC_inv {x : Expr} {f : Expr → (List Comprehension) → Scope → Bool} (h : onLC x f = true) : ∃ y gs sc p, x = .ListComp y gs sc p ∧ f y gs sc = true := let ⟨q, h⟩ := on3_inv h; ⟨_, _, _, _, q.2, h⟩
noncomputable def one {α : Type} : List α → (α → Bool) → Bool
  | [x], f => f x
  | _, _ => false
noncomputable def two {α : Type} : List α → (α → α → Bool) → Bool
  | [x, y], f => f x y
  | _, _ => false
noncomputable def some1 {α : Type} : List α → Bool
  | _ :: _ => true
  | _ => false
/-- a call of a name, by place alone -/
noncomputable def onCallN (x : Expr) (f : Str → List Expr → Bool) : Bool := onCall x fun g xs ks _ => ks.isEmpty && onName g fun y => f y xs
section
variable {x : Expr}
theorem one_inv {α : Type} {xs : List α} {f : α → Bool} (h : one xs f = true) : ∃ x, xs = [x] ∧ f x = true := by
  rcases xs with _ | ⟨a, _ | ⟨b, r⟩⟩
  · exact ff h
  · exact ⟨_, rfl, h⟩
  · exact ff h
theorem two_inv {α : Type} {xs : List α} {f : α → α → Bool} (h : two xs f = true) : ∃ x y, xs = [x, y] ∧ f x y = true := by
  rcases xs with _ | ⟨a, _ | ⟨b, _ | ⟨e, r⟩⟩⟩
  · exact ff h
  · exact ff h
  · exact ⟨_, _, rfl, h⟩
  · exact ff h
theorem some1_inv {α : Type} {xs : List α} (h : some1 xs = true) : ∃ x r, xs = x :: r := by
  cases xs with
  | nil => exact ff h
  | cons a r => exact ⟨_, _, rfl⟩
theorem onCallN_inv {f : Str → List Expr → Bool} (h : onCallN x f = true) : ∃ y p xs q, x = .Call (.Name y p) xs [] q ∧ f y xs = true := by
  obtain ⟨g, xs, ks, q, rfl, k⟩ := onCall_inv h
  obtain ⟨h1, h2⟩ := (Bool.and_eq_true _ _).mp k
  obtain ⟨y, p, rfl, k3⟩ := onName_inv h2
  cases ks with
  | nil => exact ⟨_, _, _, _, rfl, k3⟩
  | cons => exact ff h1
end

noncomputable def chkN (c : Sc) (i : Nat) (e : Expr) : Bool := onName e fun x => isVar c x i && canStore c x
noncomputable def chkTg (c : Sc) : Tg → Expr → Bool
  | .var i, x => chkN c i x
  | .tup _, _ => false
noncomputable def isStrE (x : E) : Bool := by cases x with
  | str => exact true
  | _ => exact false
noncomputable def optE (f : Expr → Bool) (b : Bool) : Option Expr → Bool
  | some x => f x
  | none => b
/-- two or more, by and / or -/
noncomputable def andT (f g : Expr → Bool) (o : BoolOp) : List Expr → Pos → Bool
  | [y, z], _ => f y && g z
  | [y, z, u], p => f y && g (.BoolOp o [z, u] p)
  | [y, z, u, v], p => f y && g (.BoolOp o [z, u, v] p)
  | [y, z, u, v, t], p => f y && g (.BoolOp o [z, u, v, t] p)
  | _, _ => false
theorem andT_inv {f g : Expr → Bool} {o : BoolOp} {ys : List Expr} {p : Pos} (h : andT f g o ys p = true) : (∃ y z, ys = [y, z] ∧ f y = true ∧ g z = true) ∨ (∃ y z u r, ys = y :: z :: u :: r ∧ f y = true ∧ g (.BoolOp o (z :: u :: r) p) = true) := by
  rcases ys with _ | ⟨y, _ | ⟨z, _ | ⟨u, _ | ⟨v, _ | ⟨t, _ | ⟨w, r⟩⟩⟩⟩⟩⟩
  · exact ff h
  · exact ff h
  · exact .inl ⟨_, _, rfl, (Bool.and_eq_true _ _).mp h⟩
  · exact .inr ⟨_, _, _, _, rfl, (Bool.and_eq_true _ _).mp h⟩
  · exact .inr ⟨_, _, _, _, rfl, (Bool.and_eq_true _ _).mp h⟩
  · exact .inr ⟨_, _, _, _, rfl, (Bool.and_eq_true _ _).mp h⟩
  · exact ff h
noncomputable def baseX (x : Expr) : Bool := by cases x with
  | Name => exact true
  | Subscript => exact true
  | _ => exact false
mutual
noncomputable def chkE (c : Sc) : E → Expr → Bool
  | .none, x => onConst x fun v => decide (v = .none)
  | .bool b, x => onConst x fun v => decide (v = .bool b)
  | .int i, x => onConst x fun v => decide (v = .int i)
  | .str s, x => onConst x fun v => decide (v = .str s) && decide (s.length ≤ sizeLine) && s.cps.all (· < 0x110000)
  | .var i, x => onName x fun y => isVar c y i
  | .glob g, x => onName x fun y => isGlob c y g
  | .bin op a b, x => onBin x fun l o r => decide (o = opOf op) && chkE c a l && chkE c b r
  | .neg a, x => onUn x fun o y => decide (o = .USub) && chkE c a y
  | .not a, x => onUn x fun o y => decide (o = .Not) && chkE c a y
  | .and a b, x => onBool x fun o ys p => decide (o = .And) && andT (chkE c a) (chkE c b) .And ys p
  | .or a b, x => onBool x fun o ys p => decide (o = .Or) && andT (chkE c a) (chkE c b) .Or ys p
  | .ite t a b, x => onIf x fun y z u => chkE c t y && chkE c a z && chkE c b u
  | .list es, x => onList x fun xs => chkEs c es xs
  | .tup es, x => onTup x fun xs => chkEs c es xs
  | .cmp a ch, x => onCmp x fun l ops rs => !lastMarks ops rs && chkE c a l && chkCh c ch ops rs
  | .sub a i, x => onSub x fun y z => chkE c a y && chkE c i z && plainX z
  | .slice a lo hi, x => onSub x fun y z => onSlice z fun l h s => s.isNone && chkE c a y && optE (chkE c lo) (isNoneE lo) l && optE (chkE c hi) (isNoneE hi) h
  | .call f es, x => onCallN x fun y xs => some1 xs && isGlob c y f && c.fns.contains f && chkEs c es xs
  | .isinst a t, x => onCallN x fun y xs => two xs fun z n => onName n fun u => isGlob c y "isinstance" && noStar z && chkE c a z && isGlob c u (tyName t) && plainTy t
  | .len a, x => onCallN x fun y xs => one xs fun z => isGlob c y "len" && noStar z && chkE c a z
  | .sum a, x => false
  | .max2 a b, x => false
  | .min2 a b, x => false
  | .maxl a, x => false
  | .maxd a d, x => false
  | .strOf a, x => onCallN x fun y xs => one xs fun z => isGlob c y "str" && noStar z && chkE c a z
  | .intOf a, x => onCallN x fun y xs => one xs fun z => isGlob c y "int" && noStar z && chkE c a z
  | .tupOf a, x => onCallN x fun y xs => one xs fun z => isGlob c y "tuple" && noStar z && chkE c a z
  | .listOf it, x => false
  | .join s a, x => onCall x fun g xs ks pos => ks.isEmpty && one xs fun z => onAttr g fun o n ap => decide (n = Str.ofString "join") && noStar z && ap.endLine == pos.line && chkE c s o && isStrE s && chkE c a z
  | .get d k v, x => false
  | .dict0, x => false
  | .attr a n, x => false
  | .new f es, x => false
  | .comp elt t it, x => onLC x fun y gs sc => one gs fun g => g.ifs.isEmpty && decide (g.is_async = 0) && (match tgNames g.target with
      | some xs => tgIs c.used t xs && tableOk c xs sc && chkTg (inner c xs sc.names) t g.target && !isSetX g.iter && ezOk it g.target && chkI c it g.iter && chkE (inner c xs sc.names) elt y
      | none => false)
  | .compIf elt t it cond, x => false
  | .isexc a t, x => onCallN x fun y xs => two xs fun z n => onName n fun u => isGlob c y "isinstance" && noStar z && chkE c a z && isGlob c u t && (c.xs.contains t || decide (t = "ValueError"))
  | .only a, x => false
noncomputable def chkEs (c : Sc) : Es → List Expr → Bool
  | .nil, xs => xs.isEmpty
  | .cons e es, xs => (match xs with
    | x :: r => noStar x && chkE c e x && chkEs c es r
    | [] => false)
noncomputable def chkCh (c : Sc) : Ch → List CmpOp → List Expr → Bool
  | .one op e, ops, xs => one ops fun o => one xs fun x => decide (o = copOf op) && chkE c e x
  | .more op e ch, ops, xs => (match ops, xs with
    | o :: ops, x :: xs => some1 ops && some1 xs && decide (o = copOf op) && chkE c e x && chkCh c ch ops xs
    | _, _ => false)
noncomputable def chkI (c : Sc) : It → Expr → Bool
  | .seq e, x => chkE c e x
  | .rev e, x => false
  | .range1 a, x => onCallN x fun y xs => one xs fun z => isGlob c y "range" && noStar z && chkE c a z
  | .range2 a b, x => false
  | .range3 a b d, x => false
  | .enum a, x => false
  | .keys e, x => false
  | .zip a b, x => false
end

noncomputable def isCompE (x : E) : Bool := by cases x with
  | comp => exact true
  | compIf => exact true
  | _ => exact false
noncomputable def isComp (x : Expr) : Bool := by cases x with
  | ListComp => exact true
  | SetComp => exact true
  | DictComp => exact true
  | _ => exact false
/-- values that the compiler does not fold, or surely does -/
noncomputable def tupOk (x : Expr) : Bool := by cases x with
  | Tuple vs _ _ => exact !(vs.all (constantsAlone 8)) || vs.all (foldedForSure 8)
  | _ => exact true
/-! shapes of statements -/
noncomputable def saExpr (x : Stmt) : Option (Is (fun q : Expr × Pos => Stmt.Expr (q.1) (q.2)) x) := by cases x with
  | Expr y p => exact some ⟨(y, p), rfl⟩
  | _ => exact none
noncomputable def onExpr (x : Stmt) (f : Expr → Bool) : Bool := on1 (saExpr x) (fun q => q.1.1) f
noncomputable def saIfS (x : Stmt) : Option (Is (fun q : Expr × (List Stmt) × (List Stmt) × Pos => Stmt.If (q.1) (q.2.1) (q.2.2.1) (q.2.2.2)) x) := by cases x with
  | If y a b p => exact some ⟨(y, a, b, p), rfl⟩
  | _ => exact none
noncomputable def onIfS (x : Stmt) (f : Expr → (List Stmt) → (List Stmt) → Bool) : Bool := on3 (saIfS x) (fun q => q.1.1) (fun q => q.1.2.1) (fun q => q.1.2.2.1) f
noncomputable def saAssign (x : Stmt) : Option (Is (fun q : (List Expr) × Expr × Pos => Stmt.Assign (q.1) (q.2.1) (q.2.2)) x) := by cases x with
  | Assign ts y p => exact some ⟨(ts, y, p), rfl⟩
  | _ => exact none
noncomputable def kAssign (x : Stmt) (f : (List Expr) → Expr → Bool) : Bool := on2 (saAssign x) (fun q => q.1.1) (fun q => q.1.2.1) f
noncomputable def saWhile (x : Stmt) : Option (Is (fun q : Expr × (List Stmt) × (List Stmt) × Pos => Stmt.While (q.1) (q.2.1) (q.2.2.1) (q.2.2.2)) x) := by cases x with
  | While y a b p => exact some ⟨(y, a, b, p), rfl⟩
  | _ => exact none
noncomputable def kWhile (x : Stmt) (f : Expr → (List Stmt) → (List Stmt) → Bool) : Bool := on3 (saWhile x) (fun q => q.1.1) (fun q => q.1.2.1) (fun q => q.1.2.2.1) f
noncomputable def saFor (x : Stmt) : Option (Is (fun q : Expr × Expr × (List Stmt) × (List Stmt) × Pos => Stmt.For (q.1) (q.2.1) (q.2.2.1) (q.2.2.2.1) (q.2.2.2.2)) x) := by cases x with
  | For t y a b p => exact some ⟨(t, y, a, b, p), rfl⟩
  | _ => exact none
noncomputable def kFor (x : Stmt) (f : Expr → Expr → (List Stmt) → (List Stmt) → Bool) : Bool := on4 (saFor x) (fun q => q.1.1) (fun q => q.1.2.1) (fun q => q.1.2.2.1) (fun q => q.1.2.2.2.1) f
noncomputable def saRet (x : Stmt) : Option (Is (fun q : (Option Expr) × Pos => Stmt.Return (q.1) (q.2)) x) := by cases x with
  | Return y p => exact some ⟨(y, p), rfl⟩
  | _ => exact none
noncomputable def kRet (x : Stmt) (f : (Option Expr) → Bool) : Bool := on1 (saRet x) (fun q => q.1.1) f
noncomputable def onAssign (x : Stmt) (f : Expr → Expr → Bool) : Bool := kAssign x fun ts y => one ts fun t => f t y
noncomputable def onWhile (x : Stmt) (f : Expr → List Stmt → Bool) : Bool := kWhile x fun y a b => b.isEmpty && f y a
noncomputable def onFor (x : Stmt) (f : Expr → Expr → List Stmt → Bool) : Bool := kFor x fun t y a b => b.isEmpty && f t y a
noncomputable def onRet (x : Stmt) (f : Expr → Bool) : Bool := kRet x fun y => optE f false y
theorem onExpr_inv {x : Stmt} {f : Expr → Bool} (h : onExpr x f = true) : ∃ y p, x = .Expr y p ∧ f y = true := let ⟨q, h⟩ := on1_inv h; ⟨_, _, q.2, h⟩
theorem onIfS_inv {x : Stmt} {f : Expr → (List Stmt) → (List Stmt) → Bool} (h : onIfS x f = true) : ∃ y a b p, x = .If y a b p ∧ f y a b = true := let ⟨q, h⟩ := on3_inv h; ⟨_, _, _, _, q.2, h⟩
theorem kAssign_inv {x : Stmt} {f : (List Expr) → Expr → Bool} (h : kAssign x f = true) : ∃ ts y p, x = .Assign ts y p ∧ f ts y = true := let ⟨q, h⟩ := on2_inv h; ⟨_, _, _, q.2, h⟩
theorem kWhile_inv {x : Stmt} {f : Expr → (List Stmt) → (List Stmt) → Bool} (h : kWhile x f = true) : ∃ y a b p, x = .While y a b p ∧ f y a b = true := let ⟨q, h⟩ := on3_inv h; ⟨_, _, _, _, q.2, h⟩
theorem kFor_inv {x : Stmt} {f : Expr → Expr → (List Stmt) → (List Stmt) → Bool} (h : kFor x f = true) : ∃ t y a b p, x = .For t y a b p ∧ f t y a b = true := let ⟨q, h⟩ := on4_inv h; ⟨_, _, _, _, _, q.2, h⟩
theorem kRet_inv {x : Stmt} {f : (Option Expr) → Bool} (h : kRet x f = true) : ∃ y p, x = .Return y p ∧ f y = true := let ⟨q, h⟩ := on1_inv h; ⟨_, _, q.2, h⟩
noncomputable def onRaise (x : Stmt) (f : Expr → Bool) : Bool := by cases x with
  | Raise e c p => exact (match e, c with
    | some y, none => f y
    | _, _ => false)
  | _ => exact false
noncomputable def onTry (x : Stmt) (f : List Stmt → Expr → Option Str → List Stmt → Bool) : Bool := by cases x with
  | Try b hs o fi p => exact o.isEmpty && fi.isEmpty && (match hs with
    | [.ExceptHandler (some t) n h q] => f b t n h
    | _ => false)
  | _ => exact false
section
variable {x : Stmt}
theorem onRaise_inv {f : Expr → Bool} (h : onRaise x f = true) : ∃ y p, x = .Raise (some y) none p ∧ f y = true := by
  cases x with
  | Raise e c p =>
    cases e with
    | none => exact ff h
    | some y =>
      cases c with
      | none => exact ⟨_, _, rfl, h⟩
      | some => exact ff h
  | _ => exact ff h
theorem onTry_inv {f : List Stmt → Expr → Option Str → List Stmt → Bool} (h : onTry x f = true) : ∃ b t n hs q p, x = .Try b [.ExceptHandler (some t) n hs q] [] [] p ∧ f b t n hs = true := by
  cases x with
  | Try b hs o fi p =>
    obtain ⟨h1, h2⟩ := (Bool.and_eq_true _ _).mp h
    obtain ⟨h0, h1⟩ := (Bool.and_eq_true _ _).mp h1
    cases o with
    | cons => exact ff h0
    | nil =>
    cases fi with
    | cons => exact ff h1
    | nil =>
    rcases hs with _ | ⟨⟨t, n, hh, q⟩, _ | ⟨b2, r⟩⟩
    · exact ff h2
    · cases t with
      | none => exact ff h2
      | some t => exact ⟨_, _, _, _, _, _, rfl, h2⟩
    · cases t <;> exact ff h2
  | _ => exact ff h
theorem onAssign_inv {f : Expr → Expr → Bool} (h : onAssign x f = true) : ∃ t y p, x = .Assign [t] y p ∧ f t y = true := by
  obtain ⟨ts, y, p, rfl, k⟩ := kAssign_inv h
  obtain ⟨t, rfl, k3⟩ := one_inv k
  exact ⟨_, _, _, rfl, k3⟩
theorem onWhile_inv {f : Expr → List Stmt → Bool} (h : onWhile x f = true) : ∃ y a p, x = .While y a [] p ∧ f y a = true := by
  obtain ⟨y, a, b, p, rfl, k⟩ := kWhile_inv h
  obtain ⟨h1, h2⟩ := (Bool.and_eq_true _ _).mp k
  cases b with
  | nil => exact ⟨_, _, _, rfl, h2⟩
  | cons => exact ff h1
theorem onFor_inv {f : Expr → Expr → List Stmt → Bool} (h : onFor x f = true) : ∃ t y a p, x = .For t y a [] p ∧ f t y a = true := by
  obtain ⟨t, y, a, b, p, rfl, k⟩ := kFor_inv h
  obtain ⟨h1, h2⟩ := (Bool.and_eq_true _ _).mp k
  cases b with
  | nil => exact ⟨_, _, _, _, rfl, h2⟩
  | cons => exact ff h1
theorem onRet_inv {f : Expr → Bool} (h : onRet x f = true) : ∃ y p, x = .Return (some y) p ∧ f y = true := by
  obtain ⟨y, p, rfl, k⟩ := kRet_inv h
  cases y with
  | none => exact ff k
  | some y => exact ⟨_, _, rfl, k⟩
end

mutual
noncomputable def chkA (c : Sc) : A → Expr → Bool
  | .pure e, x => chkE c e x
  | .thaw e, x => isFresh e && chkE c e x
  | .list as, x => onList x fun xs => chkAs c as xs
  | .dict, x => false
  | .new _ _, _ => false
  | .callO f es, x => onCallN x fun y xs => some1 xs && isGlob c y f && c.fns.contains f && chkEs c es xs
noncomputable def chkAs (c : Sc) : As → List Expr → Bool
  | .nil, xs => xs.isEmpty
  | .cons a as, xs => (match xs with
    | x :: r => noStar x && chkA c a x && chkAs c as r
    | [] => false)
end

/-- targets of assignments -/
noncomputable def tgAsg (t : Tg) : Bool := by cases t with
  | var => exact true
  | tup => exact false
/-- comprehensions that a name is set to -/
noncomputable def okOwn (a : A) : Bool := by cases a with
  | pure e => exact !isCompE e
  | thaw e => exact !isCompE e
  | _ => exact true
/-- the name that a handler binds -/
noncomputable def chkX (c : Sc) : Option Nat → Option Str → Bool
  | some i, some n => isVar c n i && decide (c.names.lookup n = some .local)
  | none, none => true
  | _, _ => false
mutual
noncomputable def chkS (c : Sc) : S → Stmt → Bool
  | .expr e, x => false
  | .assign t e, x => onAssign x fun tg y => chkTg c t tg && tupOk y && chkE c e y && okOwn (.pure e) && tgAsg t
  | .own i a, x => onAssign x fun tg y => chkN c i tg && chkA c a y && okOwn a
  | .append e a, x => onExpr x fun y => onCall y fun g xs ks cp => ks.isEmpty && one xs fun z => onAttr g fun o n ap => decide (n = Str.ofString "append") && ap.endLine == cp.line && baseX o && noStar z && chkE c e o && chkA c a z
  | .pop t e, x => false
  | .setitem e k v, x => onAssign x fun tg y => onSub tg fun o i => chkE c e o && chkE c k i && chkE c v y && !isComp y
  | .setkey e k v, x => false
  | .setlast e v, x => false
  | .setattr e n v, x => false
  | .ite t a b, x => onIfS x fun y bs os => chkE c t y && chkB c a bs && chkB c b os
  | .while t b, x => onWhile x fun y bs => chkE c t y && chkB c b bs
  | .for t it b, x => onFor x fun tg y bs => chkTg c t tg && chkI c it y && !isSetX y && ezOk it tg && chkB c b bs && !c.dead
  | .ret e, x => onRet x fun y => chkE c e y
  | .retO e, x => onRet x fun y => chkE c e y && isFresh e
  | .raise _ _, _ => false
  | .rz k m, x => onRaise x fun y => onCallN y fun n xs => one xs fun z => isGlob c n k && c.xs.contains k && noStar z && chkE c m z && !c.dead
  | .tryEx e k i h, x => onTry x fun bs t n hs => one bs fun b => onExpr b (fun y => chkE c e y && !isComp y) && onName t (fun u => isGlob c u k) && c.xs.contains k && some1 hs && chkX c i n && chkB { c with hot := true, dead := c.hot } h hs
noncomputable def chkB (c : Sc) : Bl → List Stmt → Bool
  | .nil, xs => xs.isEmpty
  | .cons s b, xs => (match xs with
    | x :: r => chkS c s x && chkB c b r
    | [] => false)
end

noncomputable def fnSc (fns xs : List String) (hot : Bool) (hots : List String) (fn : Fn) (d : DefRec) : Sc := ⟨(fn.vars.map Str.ofString).zip (List.range fn.vars.length), fn.vars.length, d.scope.names, fns, xs, hot, hots, false⟩
noncomputable def plainParams (a : Arguments) : Bool := a.posonlyargs.isEmpty && a.vararg.isNone && a.kwonlyargs.isEmpty && a.kwarg.isNone && a.defaults.isEmpty && a.kw_defaults.isEmpty
noncomputable def chkFn (fns xs : List String) (hot : Bool) (hots : List String) (fn : Fn) (d : DefRec) : Bool :=
  plainParams d.params && decide (d.params.args.map (·.arg) = (fn.vars.map Str.ofString).take fn.np) && decide (fn.np ≤ fn.vars.length) && decide (d.params.args.length = fn.np) &&
  decide (fn.vars.map Str.ofString).Nodup && (fn.vars.map Str.ofString).all (fun x => canStore (fnSc fns xs hot hots fn d) x && !(x == ("__classdict__" : Str))) && decide (d.scope.kind = .function) && !d.scope.isGenerator && !d.scope.isCoroutine &&
  d.scope.names.all (fun p => !decide (p.2 = .free)) && decide (d.scope.names.map (·.1)).Nodup && decide (fn.vars.length ≤ fn.nv) && chkB (fnSc fns xs hot hots fn d) fn.body d.body

end Mine
end

section
set_option autoImplicit false
namespace Mine
open PySem

noncomputable abbrev HK (h h' : Heap) : Prop := ∀ b o, h.get? b = some o → h'.get? b = some o
theorem HK.refl (h : Heap) : HK h h := fun _ _ e => e
theorem HK.trans {a b c : Heap} (x : HK a b) (y : HK b c) : HK a c := fun p o e => y p o (x p o e)
theorem HK.push (h : Heap) (o : Obj) : HK h (h.push o) := fun _ _ e => Heap.get?_push_of_some _ e

/-- all that stood stands; the frames' own things, but for their slots -/
noncomputable def HW (Z : Addr → Prop) (h h' : Heap) : Prop := ∀ b o, h.get? b = some o → (¬ Z b → h'.get? b = some o) ∧ ∃ sl, h'.get? b = some { o with slots := sl }
theorem HW.of {Z : Addr → Prop} {h h' : Heap} (k : HK h h') : HW Z h h' := fun b o e => ⟨fun _ => k b o e, o.slots, k b o e⟩
theorem HW.trans {Z : Addr → Prop} {a b c : Heap} (x : HW Z a b) (y : HW Z b c) : HW Z a c := fun p o e => ⟨fun n => (y p o ((x p o e).1 n)).1 n, let ⟨_, e1⟩ := (x p o e).2; let ⟨sl, e2⟩ := (y p _ e1).2; ⟨sl, e2⟩⟩
theorem HW.ext {Z : Addr → Prop} {h h' : Heap} (k : HW Z h h') {b : Addr} (e : h'.get? b = none) : h.get? b = none := by
  cases q : h.get? b with
  | none => rfl
  | some o => obtain ⟨sl, e'⟩ := (k b o q).2; rw [e] at e'; cases e'
theorem HW.less {Z Z' : Addr → Prop} {h h' : Heap} (k : HW Z' h h') (s : ∀ b, Z' b → Z b ∨ h.get? b = none) : HW Z h h' := fun b o e => ⟨fun n => (k b o e).1 fun q => (s b q).elim n fun q => (by rw [q] at e; cases e), (k b o e).2⟩
theorem HW.ext1 {Z : Addr → Prop} {h h' h'' : Heap} {C : Addr} (k : HW Z h h') (hC : h.get? C = none) (e : ∀ b o, b ≠ C → h'.get? b = some o → h''.get? b = some o) : HW Z h h'' := fun b o q =>
  have nb : b ≠ C := fun i => by rw [i, hC] at q; cases q
  ⟨fun n => e b o nb ((k b o q).1 n), let ⟨sl, q'⟩ := (k b o q).2; ⟨sl, e b _ nb q'⟩⟩
/-- nothing that stood is turned -/
inductive Kp (Z : Addr → Prop) (s s' : Shared) : Prop
  | mk (h' tk) : s' = { s with heap := h', toks := tk } → HW Z s.heap h' → Kp Z s s'
section
variable {Z : Addr → Prop}
theorem Kp.of {s : Shared} {h' : Heap} {t : Nat} (k : HK s.heap h') : Kp Z s { s with heap := h', toks := t } := ⟨h', t, rfl, .of k⟩
theorem Kp.ofW {s : Shared} {h' : Heap} {t : Nat} (k : HW Z s.heap h') : Kp Z s { s with heap := h', toks := t } := ⟨h', t, rfl, k⟩
theorem Kp.ofH {s : Shared} {h' : Heap} (k : HK s.heap h') : Kp Z s { s with heap := h' } := ⟨h', s.toks, rfl, .of k⟩
theorem Kp.refl (s : Shared) : Kp Z s s := ⟨s.heap, s.toks, rfl, .of (HK.refl _)⟩
theorem Kp.trans {a b c : Shared} (x : Kp Z a b) (y : Kp Z b c) : Kp Z a c := by
  obtain ⟨h1, t1, rfl, k1⟩ := x
  obtain ⟨h2, t2, rfl, k2⟩ := y
  exact ⟨h2, t2, rfl, k1.trans k2⟩
theorem Kp.hw {a b : Shared} (x : Kp Z a b) : HW Z a.heap b.heap := by
  obtain ⟨h1, t1, rfl, k1⟩ := x; exact k1
theorem Kp.tok (s : Shared) (t : Nat) : Kp Z s { s with toks := t } := ⟨s.heap, t, rfl, .of (HK.refl _)⟩
end

inductive Place where
  | loc (L : Addr) (x : Str)
  | cell (c : Addr)
noncomputable def Place.addr : Place → Addr
  | .loc L _ => L
  | .cell c => c
noncomputable def Place.ok (h : Heap) : Place → Prop
  | .loc L _ => ∃ m, h.Ns L m
  | .cell c => ∃ v, h.IsCell c v
noncomputable def Place.has (h : Heap) (v : Value) : Place → Prop
  | .loc L x => ∃ m, h.Ns L m ∧ m x = some v
  | .cell c => h.IsCell c (some v)
theorem Place.ok.kz {Z : Addr → Prop} {h h' : Heap} {p : Place} (x : p.ok h) (k : HW Z h h') : p.ok h' := by
  cases p with
  | loc L x => obtain ⟨m, o, es, ep, e, d, r⟩ := x; obtain ⟨sl, e'⟩ := (k _ _ e).2; exact ⟨m, _, es, ep, e', d, r⟩
  | cell c => obtain ⟨v, o, e, d⟩ := x; obtain ⟨sl, e'⟩ := (k _ _ e).2; exact ⟨v, _, e', d⟩
theorem Place.has.kz {Z : Addr → Prop} {h h' : Heap} {p : Place} {v : Value} (x : p.has h v) (k : HW Z h h') : p.has h' v := by
  cases p with
  | loc L x => obtain ⟨m, ⟨o, es, ep, e, d, r⟩, q⟩ := x; obtain ⟨sl, e'⟩ := (k _ _ e).2; exact ⟨m, ⟨_, es, ep, e', d, r⟩, q⟩
  | cell c => obtain ⟨o, e, d⟩ := x; obtain ⟨sl, e'⟩ := (k _ _ e).2; exact ⟨_, e', d⟩

/-- a text that the run can bear -/
noncomputable def SOk (s : Str) : Prop := s.length ≤ sizeLine ∧ ∀ c ∈ s.cps.toList, c < 0x110000
theorem SOk.append {s t : Str} (a : SOk s) (b : SOk t) (h : s.length + t.length ≤ sizeLine) : SOk (s ++ t) := by
  refine ⟨by show (s.cps ++ t.cps).size ≤ sizeLine; rw [Array.size_append]; exact h, fun c hc => ?_⟩
  have e : (s ++ t).cps = s.cps ++ t.cps := rfl
  rw [e, Array.toList_append, List.mem_append] at hc
  exact hc.elim (a.2 c) (b.2 c)
theorem SOk.sub {s : Str} {l : List Nat} (a : SOk s) (hl : l.length ≤ s.length) (hm : ∀ c ∈ l, c ∈ s.cps.toList) : SOk ⟨l.toArray⟩ :=
  ⟨by show l.toArray.size ≤ sizeLine; rw [List.size_toArray]; exact Nat.le_trans hl a.1, fun c hc => a.2 c (hm c (by simpa using hc))⟩
theorem SOk.one {s : Str} {c : Nat} (a : SOk s) (hc : c ∈ s.cps.toList) : SOk ⟨#[c]⟩ :=
  ⟨by show 1 ≤ sizeLine; decide, fun d hd => by simp at hd; subst hd; exact a.2 d hc⟩
theorem SOk.strOk {s : Str} (a : SOk s) : PyData.strOk s = true := by
  unfold PyData.strOk
  rw [← Array.all_toList, List.all_eq_true]
  exact fun c hc => decide_eq_true (a.2 c hc)

/-- an exception, of the class that a name of the text's bears -/
inductive ExcG (h : Heap) (x : Addr) (c : String) : Prop
  | mk (k o vs m) : h.get? x = some o → o.cls = .ref k → o.data = .fields vs → h.Ns mainGlobals m → m (Str.ofString c) = some (.ref k) → ExcG h x c
theorem ExcG.at {h h' : Heap} {x : Addr} {c : String} (i : ExcG h x c) (k1 : ∀ o, h.get? x = some o → h'.get? x = some o) (k2 : ∀ o, h.get? mainGlobals = some o → h'.get? mainGlobals = some o) : ExcG h' x c :=
  let ⟨k, o, vs, m, h1, h2, h3, ⟨o', es, ep, h4, r⟩, h5⟩ := i; ⟨k, o, vs, m, k1 o h1, h2, h3, ⟨o', es, ep, k2 o' h4, r⟩, h5⟩
theorem ExcG.ne {h : Heap} {x : Addr} {c : String} (i : ExcG h x c) : h.get? x ≠ none ∧ h.get? mainGlobals ≠ none :=
  let ⟨k, o, vs, m, h1, h2, h3, ⟨o', es, ep, h4, r⟩, h5⟩ := i; ⟨(fun e => by rw [h1] at e; cases e), (fun e => by rw [h4] at e; cases e)⟩
mutual
inductive RV (N : Addr → Prop) (h : Heap) : V → Value → Prop
  | none : RV N h .none .none
  | bool (b) : RV N h (.bool b) (.bool b)
  | int (i t) : RV N h (.int i) (.int i t)
  | str (s t) : SOk s → RV N h (.str s) (.str s t)
  | tup {a xs n vs} : ¬ N a → IsT h a xs n → xs.size ≤ sizeLine → RVs N h vs xs.toList → RV N h (.tup vs) (.ref a)
  | lst {a xs n vs} : ¬ N a → IsL h a xs n → xs.size ≤ sizeLine → RVs N h vs xs.toList → RV N h (.lst vs) (.ref a)
  | ref (a) : RV N h (.ref a) (.ref a)
  | exc {x c} : ¬ N x → ¬ N mainGlobals → ExcG h x c → RV N h (.exc c) (.ref x)
inductive RVs (N : Addr → Prop) (h : Heap) : List V → List Value → Prop
  | nil : RVs N h [] []
  | cons {v vs x xs} : RV N h v x → RVs N h vs xs → RVs N h (v :: vs) (x :: xs)
end

theorem RV.gen {N N' : Addr → Prop} {h h' : Heap} (hN : ∀ b, N' b → N b ∨ h.get? b = Option.none) (hk : ∀ b o, ¬ N b → h.get? b = some o → h'.get? b = some o) {v : V} {x : Value} (r : RV N h v x) : RV N' h' v x :=
  RV.rec (motive_1 := fun v x _ => RV N' h' v x) (motive_2 := fun vs xs _ => RVs N' h' vs xs) .none .bool .int .str
    (fun a1 a2 a6 _ i => .tup (fun q => (hN _ q).elim a1 fun e => by rw [a2] at e; cases e) (hk _ _ a1 a2) a6 i)
    (fun a1 a2 a6 _ i => .lst (fun q => (hN _ q).elim a1 fun e => by rw [a2] at e; cases e) (hk _ _ a1 a2) a6 i) .ref
    (fun a1 a2 a3 => .exc (fun q => (hN _ q).elim a1 fun e => a3.ne.1 e) (fun q => (hN _ q).elim a2 fun e => a3.ne.2 e) (a3.at (fun o e => hk _ _ a1 e) fun o e => hk _ _ a2 e))
    .nil (fun _ _ i j => .cons i j) r
theorem RVs.gen {N N' : Addr → Prop} {h h' : Heap} (hN : ∀ b, N' b → N b ∨ h.get? b = Option.none) (hk : ∀ b o, ¬ N b → h.get? b = some o → h'.get? b = some o) {vs : List V} {xs : List Value} (r : RVs N h vs xs) : RVs N' h' vs xs :=
  RVs.rec (motive_1 := fun _ _ _ => True) (motive_2 := fun vs xs _ => RVs N' h' vs xs) trivial (fun _ => trivial) (fun _ _ => trivial) (fun _ _ _ => trivial) (fun _ _ _ _ _ => trivial) (fun _ _ _ _ _ => trivial) (fun _ => trivial)
    (fun _ _ _ => trivial)
    .nil (fun a _ _ j => .cons (a.gen hN hk) j) r
/-- by turns, along a row -/
theorem RVs.ind {N : Addr → Prop} {h : Heap} {P : List V → List Value → Prop} (h0 : P [] []) (h1 : ∀ {v : V} {vs : List V} {x : Value} {xs : List Value}, RV N h v x → P vs xs → P (v :: vs) (x :: xs)) {vs : List V} {xs : List Value} (r : RVs N h vs xs) : P vs xs :=
  RVs.rec (motive_1 := fun _ _ _ => True) (motive_2 := fun vs xs _ => P vs xs) trivial (fun _ => trivial) (fun _ _ => trivial) (fun _ _ _ => trivial) (fun _ _ _ _ _ => trivial) (fun _ _ _ _ _ => trivial) (fun _ => trivial)
    (fun _ _ _ => trivial)
    h0 (fun a _ _ j => h1 a j) r
theorem RVs.keeps {N : Addr → Prop} {h h' : Heap} {v : List V} {x : List Value} (r : RVs N h v x) (k : HK h h') : RVs N h' v x := r.gen (fun _ q => .inl q) fun b o _ e => k b o e
theorem RV.less {N N' : Addr → Prop} {h : Heap} {v : V} {x : Value} (r : RV N h v x) (k : ∀ b, N' b → N b) : RV N' h v x := r.gen (fun b q => .inl (k b q)) fun _ _ _ e => e
theorem RVs.less {N N' : Addr → Prop} {h : Heap} {v : List V} {x : List Value} (r : RVs N h v x) (k : ∀ b, N' b → N b) : RVs N' h v x := r.gen (fun b q => .inl (k b q)) fun _ _ _ e => e
theorem RVs.length {N : Addr → Prop} {h : Heap} {vs : List V} {xs : List Value} (r : RVs N h vs xs) : vs.length = xs.length := r.ind (P := fun vs xs => vs.length = xs.length) rfl fun _ e => congrArg (· + 1) e
theorem RVs.size {N : Addr → Prop} {h : Heap} {vs : List V} {xs : Array Value} (r : RVs N h vs xs.toList) : vs.length = xs.size := by
  rw [r.length]; exact Array.length_toList
theorem RVs.get {N : Addr → Prop} {h : Heap} {vs : List V} {xs : List Value} (r : RVs N h vs xs) : ∀ (n : Nat) {v : V}, vs[n]? = some v → ∃ x, xs[n]? = some x ∧ RV N h v x :=
  r.ind (P := fun vs xs => ∀ (n : Nat) {v : V}, vs[n]? = some v → ∃ x, xs[n]? = some x ∧ RV N h v x) (fun _ _ e => by cases e) fun a i n v e => by
    cases n with
    | zero => cases e; exact ⟨_, rfl, a⟩
    | succ n => exact i n e
theorem RVs.append {N : Addr → Prop} {h : Heap} {vs ws : List V} {xs ys : List Value} (r : RVs N h vs xs) (b : RVs N h ws ys) : RVs N h (vs ++ ws) (xs ++ ys) :=
  r.ind (P := fun vs xs => RVs N h (vs ++ ws) (xs ++ ys)) b fun a i => .cons a i

inductive RO (hsh : HFn) (N : Addr → Prop) (h : Heap) (a : Addr) : AO → Prop
  | list {xs n vs} : IsL h a xs n → xs.size ≤ sizeLine → RVs N h vs xs.toList → RO hsh N h a (.list vs)

theorem RO.gen {hsh : HFn} {N N' : Addr → Prop} {h h' : Heap} {a : Addr} {o : AO} (hN : ∀ b, N' b → N b ∨ h.get? b = none) (hk : ∀ b o, ¬ N b → h.get? b = some o → h'.get? b = some o)
    (ha : ∀ o, h.get? a = some o → h'.get? a = some o) : RO hsh N h a o → RO hsh N' h' a o
  | .list a1 a5 a4 => .list (ha _ a1) a5 (a4.gen hN hk)

noncomputable def NN (H : AH) (Sys : Addr → Prop) : Addr → Prop := fun a => H a ≠ none ∨ Sys a
/-- the frames of the run -/
noncomputable def ZA (A : Around) (b : Addr) : Prop := ∃ l e, A.frames = some l ∧ e ∈ l ∧ e.frame = some b
noncomputable def FZ (A : Around) (Sys : Addr → Prop) : Addr → Prop := fun b => ZA A b ∧ Sys b
theorem RV.kz {H : AH} {A : Around} {Sys : Addr → Prop} {h h' : Heap} {v : V} {x : Value} (r : RV (NN H Sys) h v x) (k : HW (FZ A Sys) h h') : RV (NN H Sys) h' v x := r.gen (fun _ q => .inl q) fun b o n e => (k b o e).1 fun q => n (.inr q.2)
theorem RVs.kz {H : AH} {A : Around} {Sys : Addr → Prop} {h h' : Heap} {v : List V} {x : List Value} (r : RVs (NN H Sys) h v x) (k : HW (FZ A Sys) h h') : RVs (NN H Sys) h' v x := r.gen (fun _ q => .inl q) fun b o n e => (k b o e).1 fun q => n (.inr q.2)

structure Sim (hsh : HFn) (T : Heap → Prop) (lay : Nat → Option Place) (Sys Z : Addr → Prop) (base : Heap) (st : St) (h : Heap) : Prop where
  keep : HW Z base h
  zs : ∀ b, Z b → Sys b
  top : ∃ b0, T b0 ∧ HK b0 base ∧ ∀ a, (Sys a ∨ st.B a ≠ none) → b0.get? a = none
  vals : ∀ i v p, st.ρ[i]? = some (some v) → lay i = some p → ∃ val, p.has h val ∧ RV (NN st.H Sys) h v val
  ok : ∀ i p, lay i = some p → p.ok h
  inj : ∀ i j p, lay i = some p → lay j = some p → i = j
  sys : ∀ i p, lay i = some p → Sys p.addr ∧ base.get? p.addr = none ∧ st.H p.addr = none
  objs : ∀ a o, st.H a = some o → RO hsh (NN st.H Sys) h a o
  own : ∀ a, st.H a ≠ none → st.B a = none → base.get? a = none
  live : ∀ a, Sys a → h.get? a ≠ none
  ent : ∀ a, st.B a ≠ none → ∃ o, base.get? a = some o
  dis : ∀ a, Sys a → st.H a = none

theorem HW.but {Z : Addr → Prop} {b h h' : Heap} {a : Addr} (x : HW Z b h) (ha : b.get? a = none) (k : ∀ c, c ≠ a → h'.get? c = h.get? c) : HW Z b h' := fun c o e => by
  rw [k c (fun q => by rw [q, ha] at e; cases e)]; exact x c o e
theorem RO.kz {hsh : HFn} {H : AH} {Sys Z : Addr → Prop} {h h' : Heap} {a : Addr} {o : AO} (zs : ∀ b, Z b → Sys b) (r : RO hsh (NN H Sys) h a o) (n : ¬ Sys a) (k : HW Z h h') : RO hsh (NN H Sys) h' a o := r.gen (fun _ q => .inl q) (fun b o n e => (k b o e).1 fun q => n (.inr (zs b q))) (fun o e => (k a o e).1 fun q => n (zs a q))
theorem Sim.kz {hsh : HFn} {T : Heap → Prop} {lay : Nat → Option Place} {Sys Z : Addr → Prop} {base : Heap} {st : St} {h h' : Heap} (x : Sim hsh T lay Sys Z base st h) (k : HW Z h h') : Sim hsh T lay Sys Z base st h' where
  keep := x.keep.trans k
  zs := x.zs
  top := x.top
  vals := fun i v p a b => let ⟨val, c, d⟩ := x.vals i v p a b; ⟨val, c.kz k, d.gen (fun _ q => .inl q) fun b o n e => (k b o e).1 fun q => n (.inr (x.zs b q))⟩
  ok := fun i p a => (x.ok i p a).kz k
  inj := x.inj
  sys := x.sys
  objs := fun a o e => (x.objs a o e).kz x.zs (fun q => by rw [x.dis a q] at e; cases e) k
  own := x.own
  live := fun a q e => x.live a q (k.ext e)
  ent := x.ent
  dis := x.dis
theorem Sim.topH {hsh : HFn} {T : Heap → Prop} {lay : Nat → Option Place} {Sys Z : Addr → Prop} {base : Heap} {st : St} {h : Heap} (S : Sim hsh T lay Sys Z base st h) : ∃ b0, T b0 ∧ HK b0 h ∧ ∀ a, NN st.H Sys a → b0.get? a = none :=
  let ⟨b0, t, k0, n⟩ := S.top; ⟨b0, t, fun b o e => (S.keep b o (k0 b o e)).1 (fun q => by rw [n b (.inl (S.zs b q))] at e; cases e), fun a q => q.elim (fun q => by
    by_cases e : st.B a = none
    · exact (HW.of (Z := Sys) k0).ext (S.own a q e)
    · exact n a (.inr e)) fun q => n a (.inl q)⟩
theorem RO.exists {hsh : HFn} {N : Addr → Prop} {h : Heap} {a : Addr} {o : AO} (r : RO hsh N h a o) : ∃ ob, h.get? a = some ob := by
  cases r with
  | list a1 _ _ => exact ⟨_, a1⟩

theorem RO.nofields {hsh : HFn} {N : Addr → Prop} {h : Heap} {a : Addr} {o : AO} (r : RO hsh N h a o) {ob : Obj} (e : h.get? a = some ob) {vs : Array Value} (q : ob.data = .fields vs) : False := by
  cases r with
  | list a1 _ _ => rw [a1] at e; cases e; cases q
theorem Sim.fresh {hsh : HFn} {T : Heap → Prop} {lay : Nat → Option Place} {Sys Z : Addr → Prop} {base : Heap} {st : St} {h : Heap} (x : Sim hsh T lay Sys Z base st h) {a : Addr} (e : h.get? a = none) : st.H a = none := by
  cases q : st.H a with
  | none => rfl
  | some o =>
    obtain ⟨ob, e'⟩ := (x.objs a o q).exists
    rw [e] at e'; cases e'


theorem IsT.isTuple {h : Heap} {a : Addr} {xs : Array Value} {n : Nat} (x : IsT h a xs n) : h.IsTuple a xs := ⟨_, x, rfl, n, rfl⟩
theorem IsT.isTup {h : Heap} {a : Addr} {xs : Array Value} {n : Nat} (x : IsT h a xs n) : PyProof.Rows.IsTup h a xs := ⟨_, x, rfl, n, rfl⟩

/-- a row of the frame's or a frozen one -/
theorem seqL_at {hsh : HFn} {H : AH} {Sys : Addr → Prop} {h : Heap} (HO : ∀ a o, H a = some o → RO hsh (NN H Sys) h a o) {v : V} {x : Value} {vs : List V} (r : RV (NN H Sys) h v x) (e : seqL H v = some vs) :
    ∃ a xs n, x = .ref a ∧ IsL h a xs n ∧ xs.size ≤ sizeLine ∧ RVs (NN H Sys) h vs xs.toList := by
  cases r with
  | lst a1 a2 a3 a4 => simp only [sq_none, sq_bool, sq_int, sq_str, sq_tup, sq_lst, sq_ref, sq_inst, sq_iref, sq_exc, sq_dct, Option.some.injEq] at e; subst e; exact ⟨_, _, _, rfl, a2, a3, a4⟩
  | ref a =>
    simp only [sq_none, sq_bool, sq_int, sq_str, sq_tup, sq_lst, sq_ref, sq_inst, sq_iref, sq_exc, sq_dct] at e
    split at e
    · rename_i ws hw
      cases e
      cases HO a _ hw with
      | list b1 b2 b3 => exact ⟨_, _, _, rfl, b1, b2, b3⟩
    · cases e
  | _ => simp [sq_none, sq_bool, sq_int, sq_str, sq_tup, sq_lst, sq_ref, sq_inst, sq_iref, sq_exc, sq_dct] at e

end Mine
end

section
set_option autoImplicit false
namespace Mine
open PySem

/-- the frames that stand -/
noncomputable def FrOk (A : Around) (Sys : Addr → Prop) (h : Heap) : Prop := (∀ a, Sys a → h.get? a ≠ none) ∧ ∃ l, A.frames = some l ∧ ∀ e ∈ l, e.scope.kind ≠ .module ∧ ∃ L o, e.frame = some L ∧ Sys L ∧ h.get? L = some o ∧ ∀ vs, o.data ≠ .fields vs
theorem FrOk.kz {A : Around} {Sys Z : Addr → Prop} {h h' : Heap} (x : FrOk A Sys h) (k : HW Z h h') : FrOk A Sys h' :=
  let ⟨lv, l, e, f⟩ := x; ⟨fun a q e => lv a q (k.ext e), l, e, fun v hv => let ⟨h1, L, o, h2, h3, h4, h5⟩ := f v hv; let ⟨sl, h6⟩ := (k L o h4).2; ⟨h1, L, _, h2, h3, h6, h5⟩⟩
/-- the exception that is handled, if one is, has none behind it -/
noncomputable def HdOk (A : Around) (Sys : Addr → Prop) (h : Heap) : Prop := A.handled = none ∨ ∃ y o vs, A.handled = some (.ref y) ∧ ¬ Sys y ∧ h.get? y = some o ∧ o.data = .fields vs ∧ vs[2]? = some .none
theorem HdOk.kz {A : Around} {Sys : Addr → Prop} {h h' : Heap} (x : HdOk A Sys h) (k : HW (FZ A Sys) h h') : HdOk A Sys h' := x.imp id fun ⟨y, o, vs, h1, h2, h3, h4⟩ => ⟨y, o, vs, h1, h2, (k y o h3).1 fun q => h2 q.2, h4⟩
/-- new since h, and none of the frames' things -/
noncomputable def Nw (Sys : Addr → Prop) (h : Heap) (a : Addr) : Prop := h.get? a = none ∧ ¬ Sys a
theorem Nw.before {Sys Z : Addr → Prop} {h₀ h : Heap} {a : Addr} (n : Nw Sys h a) (k : HW Z h₀ h) : Nw Sys h₀ a := ⟨k.ext n.1, n.2⟩
/-- an exception under way, new since h, and its traceback -/
inductive Tb (Sys : Addr → Prop) (h h' : Heap) (x : Addr) (P : Value → Prop) (vs : Array Value) : Prop
  | mk (T oT ts fl) : vs[1]? = some (.ref T) → Nw Sys h T → T ≠ x → h'.get? T = some oT → oT.data = .fields ts → ts[3]? = some fl → P fl → Tb Sys h h' x P vs
inductive Fly (Sys : Addr → Prop) (h : Heap) (x C : Addr) (ctx : Value) (P : Value → Prop) (h' : Heap) : Prop
  | mk (nw : Nw Sys h x) (oe vs) : h'.get? x = some oe → oe.cls = .ref C → oe.data = .fields vs → vs[2]? = some ctx → Tb Sys h h' x P vs → Fly Sys h x C ctx P h'
inductive Fly0 (Sys : Addr → Prop) (h : Heap) (x C : Addr) (ctx : Value) (h' : Heap) : Prop
  | mk (nw : Nw Sys h x) (oe vs) : h'.get? x = some oe → oe.cls = .ref C → oe.data = .fields vs → vs[2]? = some ctx → vs[1]? = some .none → Fly0 Sys h x C ctx h'
theorem Fly.before {Sys Sys' : Addr → Prop} {h₀ h h' : Heap} {x C : Addr} {ctx : Value} {P : Value → Prop} (f : Fly Sys h x C ctx P h') (k : ∀ a, Nw Sys h a → Nw Sys' h₀ a) : Fly Sys' h₀ x C ctx P h' :=
  let ⟨a, oe, vs, b, c, d, e, T, oT, ts, fl, t1, t2, t3, t4, t5, t6, t7⟩ := f; ⟨k _ a, oe, vs, b, c, d, e, T, oT, ts, fl, t1, k _ t2, t3, t4, t5, t6, t7⟩
theorem Fly0.before {Sys Sys' : Addr → Prop} {h₀ h h' : Heap} {x C : Addr} {ctx : Value} (f : Fly0 Sys h x C ctx h') (k : ∀ a, Nw Sys h a → Nw Sys' h₀ a) : Fly0 Sys' h₀ x C ctx h' :=
  let ⟨a, oe, vs, b, c, d, e, g⟩ := f; ⟨k _ a, oe, vs, b, c, d, e, g⟩
theorem Fly.mono {Sys : Addr → Prop} {h h' : Heap} {x C : Addr} {ctx : Value} {P P' : Value → Prop} (f : Fly Sys h x C ctx P h') (k : ∀ v, P v → P' v) : Fly Sys h x C ctx P' h' :=
  let ⟨a, oe, vs, b, c, d, e, T, oT, ts, fl, t1, t2, t3, t4, t5, t6, t7⟩ := f; ⟨a, oe, vs, b, c, d, e, T, oT, ts, fl, t1, t2, t3, t4, t5, t6, k _ t7⟩

section
variable {M : Model} {A : Around} {E : Value → Shared → Prop} {s : Shared} {Sys : Addr → Prop} {h : Heap} {x C : Addr} {ctx : Value} {env : Env} {L : Addr}

theorem upd_hw {Z : Addr → Prop} {h h' : Heap} {b : Addr} {f : Obj → Obj} (k : HW Z h h') (hb : h.get? b = none) : HW Z h (h'.update b f) := fun c o e => by
  have : c ≠ b := fun q => by rw [q, hb] at e; cases e
  rw [Heap.get?_update_other _ _ (Ne.symm this)]; exact k c o e

/-- a new entry of the traceback, the old one shut -/
theorem entry_fly {oe : Obj} {vs : Array Value} {head : Value} {b : Bool} {Q : Unit → Shared → Prop} (hfr : FrOk A Sys s.heap) (hA : ∃ e l, A.frames = some (e :: l) ∧ e.frame = some L) (hf : env.frame = some L) (hk : HW (FZ A Sys) h s.heap) (hn : Nw Sys h x)
    (he : s.heap.get? x = some oe) (hc : oe.cls = .ref C) (hd : oe.data = .fields vs) (h2 : vs[2]? = some ctx) (h1 : 1 < vs.size)
    (hQ : ∀ h', HW (FZ A Sys) h h' → FrOk A Sys h' → Fly Sys h x C ctx (· = rawInt L) h' → Q () { s with heap := h' }) :
    wpAny M A (do setField (.ref x) 1 (← EntryCells.newEntry head (← frameOf env) .none (rawInt L) .none (← entryPlaceOf L b))) Q E s := by
  obtain ⟨e₀, l, hA, he₀⟩ := hA
  have ef : frameOf env = frameOf e₀ := by unfold frameOf; rw [hf, he₀]
  rw [ef]
  obtain ⟨lv, l', hl', hfs⟩ := hfr
  rw [hA] at hl'; cases hl'
  have e0 : ∀ b, Heap.get? ({ s.heap with objs := #[] } : Heap) b = none := fun b => Heap.get?_none_of_le (Nat.zero_le _)
  have hff : ∀ l : List Env, (∀ e ∈ l, e.scope.kind ≠ .module ∧ ∃ L o, e.frame = some L ∧ Sys L ∧ s.heap.get? L = some o ∧ ∀ vs, o.data ≠ .fields vs) → s.heap.FunFrames { s.heap with objs := #[] } l ∧ ∀ b ∈ l.filterMap (·.frame), (∃ e ∈ l, e.frame = some b) ∧ Sys b := by
    intro l
    induction l with
    | nil => exact fun _ => ⟨trivial, fun b hb => by simp at hb⟩
    | cons e l ih =>
      intro q
      obtain ⟨g1, L', o, g2, g3, g4, g5⟩ := q e (List.mem_cons_self ..)
      obtain ⟨i1, i2⟩ := ih fun e he => q e (List.mem_cons_of_mem _ he)
      refine ⟨⟨g1, ⟨L', o, g2, e0 _, g4, g5⟩, i1⟩, fun b hb => ?_⟩
      rw [List.filterMap_cons, g2] at hb
      rcases List.mem_cons.mp hb with rfl | hb
      · exact ⟨⟨e, List.mem_cons_self .., g2⟩, g3⟩
      · obtain ⟨⟨e', h1, h2⟩, h3⟩ := i2 b hb; exact ⟨⟨e', List.mem_cons_of_mem _ h1, h2⟩, h3⟩
  obtain ⟨f1, f2⟩ := hff _ hfs
  refine wpAny_bind (wpAny_frameOf_fun hA f1 he₀ fun h₁ hs₁ => ?_)
  have k₁ : HW (FZ A Sys) s.heap h₁ := fun b o e => ⟨fun n => (hs₁.2.1 b fun q => n (let ⟨⟨e', h1, h2⟩, h3⟩ := f2 b q; ⟨⟨_, e', hA, h1, h2⟩, h3⟩)).trans e, hs₁.2.2 b o e⟩
  refine wpAny_bind (wpAny_entryPlaceOf fun pl hpl => ?_)
  unfold EntryCells.newEntry newFields
  refine wpAny_bind (wpAny_newObj_type ?_ (hpl.sizeOk5 _ _ _ _ _))
  have he₁ : h₁.get? x = some oe := (k₁ x oe he).1 fun q => hn.2 q.2
  generalize hO : ({ cls := .type "traceback", dict := none, data := .fields ([head, .ref L, .none, rawInt L, .none] ++ (if pl.isEmpty then List.replicate 6 Value.none else pl)).toArray } : Obj) = O
  have he₂ := Heap.get?_push_of_some (h := h₁) O he₁
  refine wpAny_setField he₂ hd h1 ?_
  have hTx : h₁.objs.size ≠ x := Nat.ne_of_gt (Heap.lt_size he₁)
  have hd₃ := Obj.data_mapFields hd (·.setIfInBounds 1 (Value.ref h₁.objs.size))
  have kk : HW (FZ A Sys) h ((h₁.push O).update x (Obj.mapFields (·.setIfInBounds 1 (Value.ref h₁.objs.size)))) := upd_hw ((hk.trans k₁).trans (.of (HK.push _ _))) hn.1
  have hfree : O.isFreed = false := by subst hO; rfl
  refine hQ _ kk ?_ ⟨hn, _, _, Heap.get?_update_self _ he₂ (Obj.isFreed_of_fields hd₃), (Obj.cls_mapFields _ _).trans hc, hd₃, by rw [Array.getElem?_setIfInBounds_ne (by decide)]; exact h2, h₁.objs.size, O, _, _, by simp [h1], ⟨(hk.trans k₁).ext (Heap.get?_none_of_le (Nat.le_refl _)), fun q => lv _ q (k₁.ext (Heap.get?_none_of_le (Nat.le_refl _)))⟩, hTx, ?_, by rw [← hO], by first | (simp; done) | (rcases hpl with rfl | ⟨_, _, _, _, _, _, _, rfl⟩ <;> simp), rfl⟩
  · refine ⟨fun a q e => lv a q (k₁.ext ?_), _, hA, fun e he => ?_⟩
    · have hax : a ≠ x := fun q' => hn.2 (q' ▸ q)
      rw [Heap.get?_update_other _ _ (Ne.symm hax)] at e
      exact (HW.of (Z := Sys) (HK.push _ _)).ext e
    obtain ⟨g1, L', o, g2, g3, g4, g5⟩ := hfs e he
    obtain ⟨sl, g6⟩ := (k₁ L' o g4).2
    refine ⟨g1, L', { o with slots := sl }, g2, g3, ?_, g5⟩
    rw [Heap.get?_update_other _ _ (fun q : x = L' => hn.2 (by rw [q]; exact g3))]
    exact Heap.get?_push_of_some _ g6
  · rw [Heap.get?_update_other _ _ (Ne.symm hTx)]
    exact Heap.get?_push_size _ hfree

theorem note_fly0 {Q : Unit → Shared → Prop} (hfr : FrOk A Sys s.heap) (hA : ∃ e l, A.frames = some (e :: l) ∧ e.frame = some L) (hf : env.frame = some L) (hk : HW (FZ A Sys) h s.heap) (F : Fly0 Sys h x C ctx s.heap)
    (hQ : ∀ h', HW (FZ A Sys) h h' → FrOk A Sys h' → Fly Sys h x C ctx (· = rawInt L) h' → Q () { s with heap := h' }) : wpAny M A (noteFrame (.ref x) env) Q E s := by
  obtain ⟨hn, oe, vs, he, hc, hd, h2, h1⟩ := F
  unfold noteFrame
  simp only [hf]
  refine wpAny_bind (wpAny_field he hd h1 ?_)
  rw [if_neg (by decide)]
  exact entry_fly hfr hA hf hk hn he hc hd h2 (Array.getElem?_eq_some_iff.mp h1).1 hQ

theorem note_fly {Q : Unit → Shared → Prop} (hfr : FrOk A Sys s.heap) (hA : ∃ e l, A.frames = some (e :: l) ∧ e.frame = some L) (hf : env.frame = some L) (hk : HW (FZ A Sys) h s.heap) (F : Fly Sys h x C ctx (fun v => v = .none ∨ v = rawInt L) s.heap)
    (hQ : ∀ h', HW (FZ A Sys) h h' → FrOk A Sys h' → Fly Sys h x C ctx (· = rawInt L) h' → Q () { s with heap := h' }) : wpAny M A (noteFrame (.ref x) env) Q E s := by
  obtain ⟨hn, oe, vs, he, hc, hd, h2, T, oT, ts, fl, t1, t2, t3, t4, t5, t6, t7⟩ := F
  unfold noteFrame
  simp only [hf]
  refine wpAny_bind (wpAny_field he hd t1 ?_)
  rw [if_pos (show (Value.ref T != Value.none) = true from by simp)]
  refine wpAny_bind (wpAny_field t4 t5 t6 ?_)
  rcases t7 with rfl | rfl
  · rw [if_neg (show ¬ ((Value.none == rawInt L) = true) from by simp [rawInt])]
    refine wpAny_bind (wpAny_setField t4 t5 (Array.getElem?_eq_some_iff.mp t6).1 ?_)
    have hx : (s.heap.update T (Obj.mapFields (·.setIfInBounds 3 Value.none))).get? x = some oe := (Heap.get?_update_other _ _ t3).trans he
    refine entry_fly (s := { s with heap := s.heap.update T (Obj.mapFields (·.setIfInBounds 3 Value.none)) }) ?_ hA hf (upd_hw hk t2.1) hn hx hc hd h2 (Array.getElem?_eq_some_iff.mp t1).1 hQ
    obtain ⟨lv, l, e, f⟩ := hfr
    refine ⟨fun a q e => lv a q ((Heap.get?_update_other _ _ (fun q' : T = a => t2.2 (q' ▸ q))).symm.trans e), l, e, fun v hv => ?_⟩
    obtain ⟨g1, L', o, g2, g3, g4, g5⟩ := f v hv
    exact ⟨g1, L', o, g2, g3, (Heap.get?_update_other _ _ (fun q : T = L' => t2.2 (by rw [q]; exact g3))).trans g4, g5⟩
  · rw [if_pos (show (rawInt L == rawInt L) = true from by simp)]
    exact wpAny_pure (hQ _ hk hfr ⟨hn, oe, vs, he, hc, hd, h2, T, oT, ts, _, t1, t2, t3, t4, t5, t6, rfl⟩)

theorem set_fly {P : Value → Prop} {Q : Unit → Shared → Prop} (hfr : FrOk A Sys s.heap) (hk : HW (FZ A Sys) h s.heap) (F : Fly Sys h x C ctx P s.heap)
    (hQ : ∀ h', HW (FZ A Sys) h h' → FrOk A Sys h' → Fly Sys h x C ctx (· = .none) h' → Q () { s with heap := h' }) : wpAny M A (setFlight (.ref x) none) Q E s := by
  obtain ⟨hn, oe, vs, he, hc, hd, h2, T, oT, ts, fl, t1, t2, t3, t4, t5, t6, t7⟩ := F
  have hz : 3 < ts.size := (Array.getElem?_eq_some_iff.mp t6).1
  unfold setFlight
  refine wpAny_bind (wpAny_field he hd t1 ?_)
  rw [if_pos (show (Value.ref T != Value.none) = true from by simp)]
  refine wpAny_setField t4 t5 hz (hQ _ (upd_hw hk t2.1) ?_ ⟨hn, oe, vs, (Heap.get?_update_other _ _ t3).trans he, hc, hd, h2, T, _, _, _, t1, t2, t3, Heap.get?_update_self _ t4 (Obj.isFreed_of_fields (Obj.data_mapFields t5 _)), Obj.data_mapFields t5 _, by simp [hz], rfl⟩)
  obtain ⟨lv, l, e, f⟩ := hfr
  refine ⟨fun a q e => lv a q ((Heap.get?_update_other _ _ (fun q' : T = a => t2.2 (q' ▸ q))).symm.trans e), l, e, fun v hv => ?_⟩
  obtain ⟨g1, L', o, g2, g3, g4, g5⟩ := f v hv
  exact ⟨g1, L', o, g2, g3, (Heap.get?_update_other _ _ (fun q : T = L' => t2.2 (by rw [q]; exact g3))).trans g4, g5⟩
theorem back_fly {P : Value → Prop} {Q : Unit → Shared → Prop} (hfr : FrOk A Sys s.heap) (hf : env.frame = some L) (hk : HW (FZ A Sys) h s.heap) (F : Fly Sys h x C ctx P s.heap)
    (hQ : ∀ h', HW (FZ A Sys) h h' → FrOk A Sys h' → Fly Sys h x C ctx (· = rawInt L) h' → Q () { s with heap := h' }) : wpAny M A (do
    if (← field (.ref x) 1) == .none then unsupported "frame.own-activation:exception-without-traceback"
    setFlight (.ref x) env.frame) Q E s := by
  obtain ⟨hn, oe, vs, he, hc, hd, h2, T, oT, ts, fl, t1, t2, t3, t4, t5, t6, t7⟩ := F
  have hz : 3 < ts.size := (Array.getElem?_eq_some_iff.mp t6).1
  refine wpAny_bind (wpAny_field he hd t1 ?_)
  rw [if_neg (show ¬ ((Value.ref T == Value.none) = true) from by simp)]
  show wpAny M A (setFlight (.ref x) env.frame) Q E s
  unfold setFlight
  rw [hf]
  refine wpAny_bind (wpAny_field he hd t1 ?_)
  rw [if_pos (show (Value.ref T != Value.none) = true from by simp)]
  refine wpAny_setField t4 t5 hz (hQ _ (upd_hw hk t2.1) ?_ ⟨hn, oe, vs, (Heap.get?_update_other _ _ t3).trans he, hc, hd, h2, T, _, _, _, t1, t2, t3, Heap.get?_update_self _ t4 (Obj.isFreed_of_fields (Obj.data_mapFields t5 _)), Obj.data_mapFields t5 _, by simp [hz], rfl⟩)
  obtain ⟨lv, l, e, f⟩ := hfr
  refine ⟨fun a q e => lv a q ((Heap.get?_update_other _ _ (fun q' : T = a => t2.2 (q' ▸ q))).symm.trans e), l, e, fun v hv => ?_⟩
  obtain ⟨g1, L', o, g2, g3, g4, g5⟩ := f v hv
  exact ⟨g1, L', o, g2, g3, (Heap.get?_update_other _ _ (fun q : T = L' => t2.2 (by rw [q]; exact g3))).trans g4, g5⟩
end
end Mine
end

section
set_option autoImplicit false
set_option maxRecDepth 100000
namespace Mine
open PySem

/-- what is known of the exception that is handled -/
noncomputable def Hq (A : Around) (h : Heap) : Prop := A.handled = none ∨ ∃ y o vs, A.handled = some (.ref y) ∧ h.get? y = some o ∧ o.data = .fields vs ∧ vs[2]? = some .none
theorem Hq.keeps {A : Around} {h h' : Heap} (x : Hq A h) (k : HK h h') : Hq A h' := x.imp id fun ⟨y, o, vs, h1, h2, h3⟩ => ⟨y, o, vs, h1, k _ _ h2, h3⟩
theorem Hq.upd {A : Around} {h : Heap} {it : Addr} {f : Obj → Obj} (x : Hq A h) (hy : ∀ y, A.handled = some (.ref y) → y ≠ it) : Hq A (h.update it f) := x.imp id fun ⟨y, o, vs, h1, h2, h3⟩ => ⟨y, o, vs, h1, (Heap.get?_update_other _ _ (Ne.symm (hy y h1))).trans h2, h3⟩
theorem entry_unchain : entryFor table "proto.unchain" = some Builtin.«proto.unchain» := entryFor_of_fast (by kernel_rfl)

section
variable {prog : Program} {w : World} {A : Around} {E : Value → Shared → Prop} {s : Shared}

/-- a new exception is raised, be another one handled or not -/
theorem raise_new {α : Type} {Q : α → Shared → Prop} {x : Addr} {ox : Obj} {vx : Array Value} (hq : Hq A s.heap) (hne : ∀ y, A.handled = some (.ref y) → y ≠ x) (hx : s.heap.get? x = some ox) (hd : ox.data = .fields vx) (hz : 2 < vx.size)
    (h0 : A.handled = none → E (.ref x) s) (h1 : ∀ y, A.handled = some (.ref y) → E (.ref x) { s with heap := s.heap.update x (Obj.mapFields (·.setIfInBounds 2 (.ref y))) }) : wpAny (model prog w) A (raiseNew (.ref x) : Sem α) Q E s := by
  unfold raiseNew
  refine wpAny_bind (wpAny_handled ?_)
  rcases hq with hn | ⟨y, o, vs, hy, ho, hdy, h2⟩
  · rw [hn]
    exact wpAny_bind (wpAny_pure (wpAny_throw (h0 hn)))
  · rw [hy]
    have hb : ((Value.ref y != Value.ref x) = true) := by simp [hne y hy]
    simp only [hb, if_true]
    refine wpAny_bind (wpAny_holding (wpAny_runValue (codeAny_builtin entry_unchain ?_)))
    unfold Builtin.«proto.unchain»
    refine wpAny_bind (wpAny_field ho hdy h2 ?_)
    show wpAny _ _ (ret .none) _ _ _
    refine wpAny_pure ?_
    refine wpAny_bind ?_
    show wpAny _ _ (setField (.ref x) 2 (.ref y)) _ _ _
    exact wpAny_setField hx hd hz (wpAny_throw (h1 y hy))

theorem stop_new {α : Type} {Q : α → Shared → Prop} (hq : Hq A s.heap) (hE : ∀ h' e, HK s.heap h' → (∃ o, h'.get? e = some o ∧ o.cls = .type "StopIteration") → E (.ref e) { s with heap := h' }) :
    wpAny (model prog w) A (do raiseNew (← newExc (.type "StopIteration") []) : Sem α) Q E s := by
  refine wpAny_bind ?_
  simp only [newExc, newTuple]
  refine wpAny_bind (wpAny_newObj_type ?_ (by size_fits))
  refine wpAny_bind (m := firstArgMember _ _) (wpAny_of_eq (a := Value.none) (by first | rfl | (simp only [firstArgMember]; rfl)) ?_)
  refine wpAny_newObj_type ?_ (by size_fits)
  generalize ({ cls := .type "tuple", dict := none, data := .seq ([] : List Value).toArray } : Obj) = o1
  have k : ∀ o2, HK s.heap ((s.heap.push o1).push o2) := fun o2 => (HK.push _ _).trans (HK.push _ _)
  refine raise_new (hq.keeps (k _)) ?_ (Heap.get?_push_size _ rfl) rfl (by rw [Array.size_append]; exact Nat.lt_of_lt_of_le (by decide : 2 < 6) (Nat.le_add_right _ _)) (fun _ => hE _ _ (k _) ⟨_, Heap.get?_push_size _ rfl, rfl⟩) fun y hy => hE _ _ ?_ ⟨_, Heap.get?_update_self _ (Heap.get?_push_size _ rfl) rfl, rfl⟩
  · intro y hy e
    rcases hq with hn | ⟨y', o, vs, hy', ho, _⟩
    · rw [hn] at hy; cases hy
    · rw [hy] at hy'; cases hy'
      have := Heap.lt_size ho
      rw [e, Heap.size_push] at this
      exact Nat.lt_irrefl _ (Nat.lt_of_succ_lt this)
  · intro b o e
    rw [Heap.get?_update_other _ _ (fun q => by
      have := Heap.lt_size e
      rw [← q, Heap.size_push] at this
      exact Nat.lt_irrefl _ (Nat.lt_of_succ_lt this))]
    exact k _ b o e

/-- the end of a walk -/
theorem list_end {it l : Addr} {i : Nat} {items : Array Value} {Q : Option Value → Shared → Prop} (hq : Hq A s.heap) (hy : ∀ y, A.handled = some (.ref y) → y ≠ it) (hit : s.heap.IsListIter it l i) (hl : s.heap.IsList l items) (hx : items[i]? = none)
    (hQ : ∀ h', Heap.ExtBut it s.heap h' → Q none { s with heap := h' }) : wpAny (model prog w) A (pyNext (.ref it)) Q E s := by
  obtain ⟨o, ho, hc, hd⟩ := id hit
  obtain ⟨ol, hol, _, nl, hdl⟩ := hl
  unfold pyNext
  refine wpAny_bind (wpAny_attempt (wpAny_callSpecial?_slot (name := Str.ofString "__next__") hit.typeIs slot_listiter_next (wpAny_call_entry slot_listiter_next hit.typeIs entry_listiter_next ?_ (args_listiter_next _))))
  show wpAny _ _ (field (.ref it) 0 >>= _) _ _ s
  refine wpAny_bind (wpAny_field ho hd (x := .ref l) rfl ?_)
  show wpAny _ _ (if (Value.ref l == Value.none) = true then _ else _) _ _ s
  rw [if_neg (show ¬ ((Value.ref l == Value.none) = true) from Bool.false_ne_true)]
  show wpAny _ _ (field (.ref it) 1 >>= _) _ _ s
  refine wpAny_bind (wpAny_field ho hd (x := .int i 0) rfl ?_)
  show wpAny _ _ (seqItems? (.ref l) >>= _) _ _ s
  refine wpAny_bind (wpAny_seqItems hol hdl ?_)
  simp only [Int.toNat_natCast, hx]
  refine wpAny_bind (wpAny_rule (wpAny_bind (wpAny_setField ho hd (by simp) ?_)))
  refine stop_new (A := A.in1) (hq.upd hy) fun h' e k he => ?_
  refine wpAny_bind (wpAny_isInstance (T := "StopIteration") (b := true) he isSubtype_stop ?_)
  exact wpAny_pure (hQ _ fun b o nb e => k b o ((Heap.get?_update_other _ _ (Ne.symm nb)).trans e))
theorem tuple_end {it l : Addr} {i : Nat} {items : Array Value} {Q : Option Value → Shared → Prop} (hq : Hq A s.heap) (hy : ∀ y, A.handled = some (.ref y) → y ≠ it) (hit : s.heap.IsTupleIter it l i) (hl : s.heap.IsTuple l items) (hx : items[i]? = none)
    (hQ : ∀ h', Heap.ExtBut it s.heap h' → Q none { s with heap := h' }) : wpAny (model prog w) A (pyNext (.ref it)) Q E s := by
  obtain ⟨o, ho, hc, hd⟩ := id hit
  obtain ⟨ol, hol, _, nl, hdl⟩ := hl
  unfold pyNext
  refine wpAny_bind (wpAny_attempt (wpAny_callSpecial?_slot (name := Str.ofString "__next__") hit.typeIs F.slot_tuple_iterator_next (wpAny_call_entry F.slot_tuple_iterator_next hit.typeIs F.entry_tuple_iterator_next ?_ (F.args_tuple_iterator_next_1 _))))
  show wpAny _ _ (field (.ref it) 0 >>= _) _ _ s
  refine wpAny_bind (wpAny_field ho hd (x := .ref l) rfl ?_)
  show wpAny _ _ (if (Value.ref l == Value.none) = true then _ else _) _ _ s
  rw [if_neg (show ¬ ((Value.ref l == Value.none) = true) from Bool.false_ne_true)]
  show wpAny _ _ (field (.ref it) 1 >>= _) _ _ s
  refine wpAny_bind (wpAny_field ho hd (x := .int i 0) rfl ?_)
  show wpAny _ _ (seqItems? (.ref l) >>= _) _ _ s
  refine wpAny_bind (wpAny_seqItems hol hdl ?_)
  simp only [Int.toNat_natCast, hx]
  refine wpAny_bind (wpAny_rule (wpAny_bind (wpAny_setField ho hd (by simp) ?_)))
  refine stop_new (A := A.in1) (hq.upd hy) fun h' e k he => ?_
  refine wpAny_bind (wpAny_isInstance (T := "StopIteration") (b := true) he isSubtype_stop ?_)
  exact wpAny_pure (hQ _ fun b o nb e => k b o ((Heap.get?_update_other _ _ (Ne.symm nb)).trans e))
theorem ascii_end {it : Addr} {x : Str} {t : Tok} {i : Nat} {Q : Option Value → Shared → Prop} (hq : Hq A s.heap) (hy : ∀ y, A.handled = some (.ref y) → y ≠ it) (hit : s.heap.IsStrIter it "str_ascii_iterator" x t i) (hx : x.cps[i]? = none)
    (hQ : ∀ h', Heap.ExtBut it s.heap h' → Q none { s with heap := h' }) : wpAny (model prog w) A (pyNext (.ref it)) Q E s := by
  obtain ⟨o, ho, hc, hd⟩ := id hit
  unfold pyNext
  refine wpAny_bind (wpAny_attempt (wpAny_callSpecial?_slot (name := Str.ofString "__next__") hit.typeIs F.slot_str_ascii_iterator_next (wpAny_call_entry F.slot_str_ascii_iterator_next hit.typeIs F.entry_str_ascii_iterator_next ?_ (F.args_str_ascii_iterator_next_1 _))))
  show wpAny _ _ (field (.ref it) 0 >>= _) _ _ s
  refine wpAny_bind (wpAny_field ho hd (x := .str x t) rfl ?_)
  show wpAny _ _ (field (.ref it) 1 >>= _) _ _ s
  refine wpAny_bind (wpAny_field ho hd (x := .int i 0) rfl ?_)
  simp only [Int.toNat_natCast, hx]
  refine wpAny_bind (wpAny_rule (wpAny_bind (wpAny_setField ho hd (by simp) (wpAny_bind (wpAny_letGo ?_)))))
  refine stop_new (A := A.in1) (hq.upd hy) fun h' e k he => ?_
  refine wpAny_bind (wpAny_isInstance (T := "StopIteration") (b := true) he isSubtype_stop ?_)
  exact wpAny_pure (hQ _ fun b o nb e => k b o ((Heap.get?_update_other _ _ (Ne.symm nb)).trans e))
theorem wide_end {it : Addr} {x : Str} {t : Tok} {i : Nat} {Q : Option Value → Shared → Prop} (hq : Hq A s.heap) (hy : ∀ y, A.handled = some (.ref y) → y ≠ it) (hit : s.heap.IsStrIter it "str_iterator" x t i) (hx : x.cps[i]? = none)
    (hQ : ∀ h', Heap.ExtBut it s.heap h' → Q none { s with heap := h' }) : wpAny (model prog w) A (pyNext (.ref it)) Q E s := by
  obtain ⟨o, ho, hc, hd⟩ := id hit
  unfold pyNext
  refine wpAny_bind (wpAny_attempt (wpAny_callSpecial?_slot (name := Str.ofString "__next__") hit.typeIs F.slot_str_iterator_next (wpAny_call_entry F.slot_str_iterator_next hit.typeIs F.entry_str_iterator_next ?_ (F.args_str_iterator_next_1 _))))
  show wpAny _ _ (field (.ref it) 0 >>= _) _ _ s
  refine wpAny_bind (wpAny_field ho hd (x := .str x t) rfl ?_)
  show wpAny _ _ (field (.ref it) 1 >>= _) _ _ s
  refine wpAny_bind (wpAny_field ho hd (x := .int i 0) rfl ?_)
  simp only [Int.toNat_natCast, hx]
  refine wpAny_bind (wpAny_rule (wpAny_bind (wpAny_setField ho hd (by simp) (wpAny_bind (wpAny_letGo ?_)))))
  refine stop_new (A := A.in1) (hq.upd hy) fun h' e k he => ?_
  refine wpAny_bind (wpAny_isInstance (T := "StopIteration") (b := true) he isSubtype_stop ?_)
  exact wpAny_pure (hQ _ fun b o nb e => k b o ((Heap.get?_update_other _ _ (Ne.symm nb)).trans e))
theorem range_end {it : Addr} {x left step : Int} {Q : Option Value → Shared → Prop} (hq : Hq A s.heap) (hit : IsRangeIter s.heap it x left step) (hleft : left ≤ 0)
    (hQ : ∀ h', Heap.ExtBut it s.heap h' → Q none { s with heap := h' }) : wpAny (model prog w) A (pyNext (.ref it)) Q E s := by
  have hT : s.TypeIs (.ref it) "range_iterator" := ⟨_, hit, rfl⟩
  unfold pyNext
  refine wpAny_bind (wpAny_attempt (wpAny_callSpecial?_slot (name := Str.ofString "__next__") hT F.slot_range_iterator_next (wpAny_call_entry F.slot_range_iterator_next hT F.entry_range_iterator_next ?_ (F.args_range_iterator_next_1 _))))
  show wpAny _ _ (field (.ref it) 0 >>= _) _ _ s
  refine wpAny_bind (wpAny_field hit rfl (x := rawInt x) rfl ?_)
  show wpAny _ _ (field (.ref it) 1 >>= _) _ _ s
  refine wpAny_bind (wpAny_field hit rfl (x := rawInt left) rfl ?_)
  show wpAny _ _ (field (.ref it) 2 >>= _) _ _ s
  refine wpAny_bind (wpAny_field hit rfl (x := rawInt step) rfl ?_)
  show wpAny _ _ (if left ≤ 0 then _ else _) _ _ s
  rw [if_pos hleft]
  refine wpAny_bind (wpAny_rule ?_)
  refine wpAny_bind ?_
  refine stop_new (A := A.in1) hq fun h' e k he => ?_
  refine wpAny_bind (wpAny_isInstance (T := "StopIteration") (b := true) he isSubtype_stop ?_)
  exact wpAny_pure (hQ _ fun b o _ e => k b o e)
end
end Mine
end

section
set_option autoImplicit false
namespace Mine
open PySem

/-- the frame on top -/
noncomputable def TopL (A : Around) (L : Addr) : Prop := ∃ env l, A.frames = some (env :: l) ∧ env.frame = some L
/-- how a raise leaves: an exception of an own class is under way, and all that stood stands -/
inductive Rz (mg : Str → Option Value) (A : Around) (Sys : Addr → Prop) (s : Shared) (X : String → Prop) (e : Value) (s' : Shared) : Prop
  | mk (c C x ctx) : X c → mg (Str.ofString c) = some (.ref C) → e = .ref x → Kp (FZ A Sys) s s' → (A.handled = none → ctx = .none) → (Fly0 Sys s.heap x C ctx s'.heap ∨ Fly Sys s.heap x C ctx (fun v => v = .none ∨ ∃ L, TopL A L ∧ v = rawInt L) s'.heap) → Rz mg A Sys s X e s'
theorem Rz.trans {mg : Str → Option Value} {A : Around} {Sys : Addr → Prop} {s s₁ s' : Shared} {X : String → Prop} {e : Value} (k : Kp (FZ A Sys) s s₁) (r : Rz mg A Sys s₁ X e s') : Rz mg A Sys s X e s' :=
  let ⟨c, C, x, ctx, h1, h2, h3, h4, h5, h6⟩ := r; ⟨c, C, x, ctx, h1, h2, h3, k.trans h4, h5, h6.imp (fun f => f.before fun _ n => n.before k.hw) fun f => f.before fun _ n => n.before k.hw⟩
theorem Rz.no {mg : Str → Option Value} {A : Around} {Sys : Addr → Prop} {s s' : Shared} {e : Value} (r : Rz mg A Sys s (fun _ => False) e s') : False := let ⟨_, _, _, _, h, _, _, _, _, _⟩ := r; h

structure Rm (d : Nat) (A : Around) : Prop where
  depth : A.depth + d + 150 < recursionLimit
  units : A.units + 20 * d + 200 < cLine
/-- a thing just made: it stood nowhere ahead, and nothing in it leads back to it -/
noncomputable abbrev Frsh (N : Addr → Prop) (s s' : Shared) (v : V) (val : Value) : Prop :=
  ∀ a, val = .ref a → s.heap.get? a = none ∧ ∀ vs, v = .lst vs → ∃ xs n, IsL s'.heap a xs n ∧ xs.size ≤ sizeLine ∧ RVs (fun b => N b ∨ b = a) s'.heap vs xs.toList
theorem Frsh.before {N Z : Addr → Prop} {s₀ s s' : Shared} {v : V} {val : Value} (x : Frsh N s s' v val) (k : Kp Z s₀ s) : Frsh N s₀ s' v val := fun a e => by
  obtain ⟨h1, h2⟩ := x a e
  exact ⟨k.hw.ext h1, h2⟩
theorem Frsh.mk {N : Addr → Prop} {s s' : Shared} {vs : List V} {xs : Array Value} {n : Nat} {a : Addr} (hf : s.heap.get? a = none) (r : RVs N s.heap vs xs.toList) (k : HK s.heap s'.heap) (hl : IsL s'.heap a xs n) (hz : xs.size ≤ sizeLine) : Frsh N s s' (.lst vs) (.ref a) := by
  rintro a' ⟨⟩
  refine ⟨hf, ?_⟩
  rintro vs' ⟨⟩
  refine ⟨xs, n, hl, hz, r.gen (fun b q => ?_) fun b o _ e => k b o e⟩
  rcases q with q | rfl
  · exact .inl q
  · exact .inr hf

/-- a tree, read as a transformer of wishes about values -/
noncomputable def Snd (prog : Program) (w : World) (mg : Str → Option Value) (A : Around) (N Sys : Addr → Prop) (s : Shared) (f : Bool) (t : Sem Value) (W : (V → Prop) → (String → Prop) → Prop) : Prop :=
  ∀ (Q : V → Prop) (X : String → Prop) (K : Value → Shared → Prop) (E : Value → Shared → Prop), W Q X →
    (∀ v val s', Q v → RV N s'.heap v val → Kp (FZ A Sys) s s' → (f = true → Frsh N s s' v val) → K val s') →
    (∀ e s', Rz mg A Sys s X e s' → E e s') → wpAny (model prog w) A t K E s

structure EnvOk (env : Env) (names : List (Str × NameKind)) (σ : List (Str × Nat)) (lay : Nat → Option Place) : Prop where
  kind : env.scope.kind = .function
  glob : env.globals = mainGlobals
  blt : env.builtins = builtinsNs
  gl : ∀ x, names.lookup x = some .globalImplicit → env.kindOf x = some .globalImplicit
  lc : ∀ x, names.lookup x = some .local → env.kindOf x = some .local
  ce : ∀ x, names.lookup x = some .cell → env.kindOf x = some .cell
  fr : ∀ x, names.lookup x = some .free → env.kindOf x = some .cell ∨ env.kindOf x = some .free
  vars : ∀ x i, σ.lookup x = some i → ∃ p, lay i = some p ∧ ((env.kindOf x = some .local ∧ p = .loc env.locals x) ∨
    ((env.kindOf x = some .cell ∨ env.kindOf x = some .free) ∧ (x == ("__classdict__" : Str)) = false ∧ ∃ c, env.cells.lookup x = some c ∧ p = .cell c))

section
variable {prog : Program} {w : World} {mg : Str → Option Value} {A : Around} {N Z : Addr → Prop} {s : Shared} {env : Env}

theorem snd_none {k : Nat} {pos : Pos} : Snd prog w mg A N Z s false (eval (.Constant .none k pos) env) (fun Q _ => Q .none) :=
  fun _ _ _ _ hW hK _ => wpAny_Constant_none (hK _ _ _ hW .none (Kp.refl s) nofun)
theorem snd_bool {b : Bool} {k : Nat} {pos : Pos} : Snd prog w mg A N Z s false (eval (.Constant (.bool b) k pos) env) (fun Q _ => Q (.bool b)) :=
  fun _ _ _ _ hW hK _ => wpAny_Constant_bool (hK _ _ _ hW (.bool b) (Kp.refl s) nofun)
theorem snd_int {i : Int} {k : Nat} {pos : Pos} : Snd prog w mg A N Z s false (eval (.Constant (.int i) k pos) env) (fun Q _ => Q (.int i)) :=
  fun _ _ _ _ hW hK _ => wpAny_Constant_int (hK _ _ _ hW (.int i _) (Kp.tok s _) nofun)
theorem snd_str {x : Str} {k : Nat} {pos : Pos} (hx : SOk x) : Snd prog w mg A N Z s false (eval (.Constant (.str x) k pos) env) (fun Q _ => Q (.str x)) :=
  fun _ _ _ _ hW hK _ => wpAny_Constant_str (hK _ _ _ hW (.str x _ hx) (Kp.tok s _) nofun)
end

/-- load a name -/
theorem ld_var {M : Model} {A : Around} {E : Value → Shared → Prop} {hsh : HFn} {T : Heap → Prop} {lay : Nat → Option Place} {Sys Z : Addr → Prop} {base : Heap} {st : St} {s : Shared} {env : Env} {names : List (Str × NameKind)} {σ : List (Str × Nat)}
    (O : EnvOk env names σ lay) (S : Sim hsh T lay Sys Z base st s.heap) {x : Str} {i : Nat} {v : V} {Q : Value → Shared → Prop} (hx : σ.lookup x = some i) (hv : st.ρ[i]? = some (some v))
    (h : ∀ val, RV (NN st.H Sys) s.heap v val → Q val s) : wpAny M A (loadName env x) Q E s := by
  obtain ⟨p, hp, hc⟩ := O.vars x i hx
  obtain ⟨val, hh, hr⟩ := S.vals i v p hv hp
  rcases hc with ⟨hk, rfl⟩ | ⟨hk, hd, c, hc, rfl⟩
  · obtain ⟨m, hm, e⟩ := hh
    exact wpAny_loadName_local O.kind hk hm e (h val hr)
  · rcases hk with hk | hk
    · exact wpAny_loadName_cell O.kind hk hc hh (h val hr)
    · exact wpAny_loadName_free O.kind hk hc hh (h val hr) hd

/-- store a name -/
theorem st_var {M : Model} {A : Around} {E : Value → Shared → Prop} {hsh : HFn} {T : Heap → Prop} {lay : Nat → Option Place} {Sys Z : Addr → Prop} {base : Heap} {st : St} {s : Shared} {env : Env} {names : List (Str × NameKind)} {σ : List (Str × Nat)}
    (O : EnvOk env names σ lay) (S : Sim hsh T lay Sys Z base st s.heap) {x : Str} {i : Nat} {v : V} {val : Value} {Q : Unit → Shared → Prop} (hx : σ.lookup x = some i) (hi : i < st.ρ.length)
    (hfree : env.kindOf x ≠ some .free) (hr : RV (NN st.H Sys) s.heap v val)
    (h : ∀ h' t p, lay i = some p → Heap.SameBut p.addr s.heap h' → Sim hsh T lay Sys Z base { st with ρ := st.ρ.set i (some v) } h' → Q () { s with heap := h', toks := t }) :
    wpAny M A (storeName env x val) Q E s := by
  obtain ⟨p, hp, hc⟩ := O.vars x i hx
  have hN : NN st.H Sys p.addr := .inr (S.sys i p hp).1
  -- what the store leaves
  have fin : ∀ h', Heap.SameBut p.addr s.heap h' → p.has h' val → p.ok h' → (∀ j q, lay j = some q → j ≠ i → (∀ u, q.has s.heap u → q.has h' u) ∧ (q.ok s.heap → q.ok h')) →
      Sim hsh T lay Sys Z base { st with ρ := st.ρ.set i (some v) } h' := by
    intro h' hs hh hok hoth
    have hk : ∀ b o, ¬ NN st.H Sys b → s.heap.get? b = some o → h'.get? b = some o := fun b o nb e => (hs.2 b (fun q => nb (q ▸ hN))).trans e
    refine ⟨S.keep.but (S.sys i p hp).2.1 hs.2, S.zs, S.top, fun j u q hj hq => ?_, fun j q hq => ?_, S.inj, S.sys, fun a o e => ?_, S.own, fun a q e => ?_, S.ent, S.dis⟩
    · by_cases hji : j = i
      · subst hji
        rw [List.getElem?_set_self hi] at hj
        cases hj
        rw [hp] at hq; cases hq
        exact ⟨val, hh, hr.gen (fun _ q => .inl q) hk⟩
      · rw [List.getElem?_set_ne (Ne.symm hji)] at hj
        obtain ⟨u', a1, a2⟩ := S.vals j u q hj hq
        exact ⟨u', (hoth j q hq hji).1 u' a1, a2.gen (fun _ q => .inl q) hk⟩
    · by_cases hji : j = i
      · subst hji; rw [hp] at hq; cases hq; exact hok
      · exact (hoth j q hq hji).2 (S.ok j q hq)
    · have e0 : st.H a = some o := e
      refine (S.objs a o e0).gen (fun _ q => .inl q) hk fun ob e' => (hs.2 a fun q => ?_).trans e'
      rw [q, (S.sys i p hp).2.2] at e0; cases e0
    · by_cases ha : a = p.addr
      · subst ha
        cases p with
        | loc L x => obtain ⟨m, o, es, ep, e', _⟩ := hok; rw [show (Place.loc L x).addr = L from rfl, e'] at e; cases e
        | cell c => obtain ⟨v, o, e', _⟩ := hok; rw [show (Place.cell c).addr = c from rfl, e'] at e; cases e
      · rw [hs.2 a ha] at e; exact S.live a q e
  rcases hc with ⟨hk, rfl⟩ | ⟨hk, hd, c, hc, rfl⟩
  · obtain ⟨m, hm⟩ := S.ok i _ hp
    refine wpAny_storeName_local hk hm (fun h' hn hs => h h' _ _ hp hs (fin h' hs ⟨_, hn, by simp⟩ ⟨_, hn⟩ fun j q hq hji => ?_)) (by rw [O.kind]; rfl)
    cases q with
    | loc L y =>
      by_cases hL : L = env.locals
      · subst hL
        have hne : y ≠ x := fun e => hji (S.inj j i _ hq (e ▸ hp))
        refine ⟨fun u hu => ?_, fun _ => ⟨_, hn⟩⟩
        obtain ⟨m', hm', e'⟩ := hu
        have : m' = m := by
          obtain ⟨o1, es1, ep1, g1, d1, _, f1⟩ := hm'
          obtain ⟨o2, es2, ep2, g2, d2, _, f2⟩ := hm
          rw [g1] at g2; cases g2
          rw [d1] at d2; cases d2
          funext z; rw [← f1, ← f2]
        subst this
        exact ⟨_, hn, by simp [hne, e']⟩
      · exact ⟨fun u hu => let ⟨m', a, b⟩ := hu; ⟨m', a.sameBut hs hL, b⟩, fun hu => let ⟨m', a⟩ := hu; ⟨m', a.sameBut hs hL⟩⟩
    | cell c =>
      have hne : ∀ v, s.heap.IsCell c v → c ≠ env.locals := by
        rintro v ⟨o, e, d⟩ rfl
        obtain ⟨o2, es2, ep2, g2, d2, _⟩ := hm
        rw [e] at g2; cases g2
        rw [d] at d2; cases d2
      exact ⟨fun u hu => Heap.IsCell.sameBut hu hs (hne _ hu), fun hu => let ⟨v', a⟩ := hu; ⟨v', a.sameBut hs (hne _ a)⟩⟩
  · have hk : env.kindOf x = some .cell := hk.resolve_right hfree
    obtain ⟨v0, hv0⟩ := S.ok i _ hp
    refine wpAny_storeName_cell O.kind hk hc hv0 fun h' hn hs => h h' _ _ hp hs (fin h' hs hn ⟨_, hn⟩ fun j q hq hji => ?_)
    cases q with
    | loc L y =>
      have hne : ∀ m, s.heap.Ns L m → L ≠ c := by
        rintro m ⟨o2, es2, ep2, g2, d2, _⟩ rfl
        obtain ⟨o, e, d⟩ := hv0
        rw [e] at g2; cases g2
        rw [d] at d2; cases d2
      exact ⟨fun u hu => let ⟨m', a, b⟩ := hu; ⟨m', a.sameBut hs (hne _ a), b⟩, fun hu => let ⟨m', a⟩ := hu; ⟨m', a.sameBut hs (hne _ a)⟩⟩
    | cell c' =>
      have hne : c' ≠ c := fun e => hji (S.inj j i _ hq (e ▸ hp))
      exact ⟨fun u hu => Heap.IsCell.sameBut hu hs hne, fun hu => let ⟨v', a⟩ := hu; ⟨v', a.sameBut hs hne⟩⟩

end Mine
end

section
set_option autoImplicit false
namespace Mine
open PySem

structure RmF (d : Nat) (A : Around) : Prop extends Rm d A where
  head : ∃ env l, A.frames = some (env :: l) ∧ env.scope.isGenerator = false ∧ env.scope.isCoroutine = false ∧ env.builtins = builtinsNs ∧ env.globals = mainGlobals

/-- where a call may be made -/
structure RmC (d : Nat) (A : Around) : Prop extends Rm d A where
  fr : ∃ l, A.frames = some l
theorem RmF.toC {d : Nat} {A : Around} (x : RmF d A) : RmC d A := ⟨x.toRm, let ⟨e, l, h, _⟩ := x.head; ⟨e :: l, h⟩⟩

/-- what every heap of the run bears -/
structure TG (prog : Program) (mg mb : Str → Option Value) (h : Heap) : Prop where
  g : h.Ns mainGlobals mg
  b : h.Ns builtinsNs mb
  nolimit : h.NoLimit
  noseer : h.NoSeer
  tree : prog.given.tree = none
theorem TG.keeps {prog : Program} {mg mb : Str → Option Value} {h h' : Heap} (x : TG prog mg mb h) (k : HK h h') : TG prog mg mb h' :=
  ⟨x.g.keeps k, x.b.keeps k, x.nolimit.keeps k, x.noseer.keeps k, x.tree⟩

theorem pylong {prog : Program} {w : World} {mg mb : Str → Option Value} {A : Around} {s : Shared} {d : Nat} (R : RmF d A) (T : TG prog mg mb s.heap) : PylongRoom (model prog w) A s := by
  obtain ⟨env, l, h1, h2, h3, h4, h5⟩ := R.head
  exact PylongRoom.of T.nolimit (by have := R.depth; show A.depth + 100 < recursionLimit; omega) (SeerAt.of T.noseer T.tree h1 h2 h3 h4 h5)

noncomputable abbrev HO (hsh : HFn) (H : AH) (Sys : Addr → Prop) (h : Heap) : Prop := ∀ a o, H a = some o → RO hsh (NN H Sys) h a o

theorem fresh_size (h : Heap) : h.get? h.objs.size = none := Heap.get?_none_of_le (Nat.le_refl _)
theorem new_lst {hsh : HFn} {H : AH} {Sys : Addr → Prop} {h : Heap} {vs : List V} {xs : Array Value} (ho : HO hsh H Sys h) (hsys : ∀ a, Sys a → h.get? a ≠ none) (r : RVs (NN H Sys) h vs xs.toList) (hz : xs.size ≤ sizeLine) :
    RV (NN H Sys) (h.push { cls := .type "list", data := .seq xs }) (.lst vs) (.ref h.objs.size) := by
  refine .lst (fun q => ?_) (IsL.new h xs) hz (r.keeps (HK.push h _))
  rcases q with q | q
  · cases e : H h.objs.size with
    | none => exact q e
    | some o =>
      obtain ⟨ob, e'⟩ := (ho _ _ e).exists
      rw [fresh_size] at e'; cases e'
  · exact hsys _ q (fresh_size h)
theorem new_tup {hsh : HFn} {H : AH} {Sys : Addr → Prop} {h : Heap} {vs : List V} {xs : Array Value} (ho : HO hsh H Sys h) (hsys : ∀ a, Sys a → h.get? a ≠ none) (r : RVs (NN H Sys) h vs xs.toList) (hz : xs.size ≤ sizeLine) :
    RV (NN H Sys) (h.push { cls := .type "tuple", data := .seq xs }) (.tup vs) (.ref h.objs.size) := by
  refine .tup (fun q => ?_) (IsT.new h xs) hz (r.keeps (HK.push h _))
  rcases q with q | q
  · cases e : H h.objs.size with
    | none => exact q e
    | some o =>
      obtain ⟨ob, e'⟩ := (ho _ _ e).exists
      rw [fresh_size] at e'; cases e'
  · exact hsys _ q (fresh_size h)

section
variable {hsh : HFn} {prog : Program} {w : World} {A : Around} {E : Value → Shared → Prop} {s : Shared} {H : AH} {Sys : Addr → Prop} {mg mb : Str → Option Value} {d : Nat}

theorem RVs.repL {N : Addr → Prop} {h : Heap} {vs : List V} {xs : List Value} (r : RVs N h vs xs) : ∀ n : Nat, RVs N h (repL n vs) (repL n xs)
  | 0 => .nil
  | n + 1 => by
    have := r.append (r.repL n)
    simpa [Mine.repL, List.replicate_succ] using this
theorem repL_length {α : Type} (n : Nat) (xs : List α) : (repL n xs).length = n * xs.length := by simp [repL]

theorem repL_nil {α : Type} (n : Nat) : repL n ([] : List α) = [] := by simp [repL]
theorem foldl_rep {α : Type} (xs : Array α) : ∀ (n : Nat) (acc : Array α), ((List.replicate n xs).foldl (fun x1 x2 => x1 ++ x2) acc).toList = acc.toList ++ repL n xs.toList
  | 0, acc => by simp [repL]
  | n + 1, acc => by
    rw [List.replicate_succ, List.foldl_cons, foldl_rep xs n]
    simp [repL, List.replicate_succ]
theorem mul_row {l : Addr} {items : Array Value} {k : Nat} {x : Int} {u : Tok} {Q : Value → Shared → Prop} (hl : IsL s.heap l items k) (hlo : -(2 ^ 62 : Int) ≤ x) (hhi : x < 2 ^ 62) (hsz : items.size * x.toNat ≤ sizeLine)
    (h : ∀ r : Array Value, r.toList = repL x.toNat items.toList → Q (.ref s.heap.objs.size) { s with heap := s.heap.push { cls := .type "list", data := .seq r } }) :
    wpAny (model prog w) A (binaryOp .Mult (.ref l) (.int x u)) Q E s := by
  have hz : items.size * x.toNat ≤ 16777216 := hsz
  refine wpAny_binaryOp_repeat_ref (T := "list") (U := "int") (by decide) ⟨_, hl, rfl⟩ (fun s' => typeIs_int s' x u) noFill_list_mul F.fills_int_mul F.slot_int_rmul repeat_list F.slot_int_index.lookup ?_
  refine call_meets F.slot_int_rmul (typeIs_int s x u) F.entry_int_rmul (F.args_int_rmul_2 _ _) (int___rmul___int_list x u l items k) ⟨hl, rfl, ⟨_, hl, rfl⟩, ?_⟩
  refine call_meets F.slot_list_mul ⟨_, hl, rfl⟩ F.entry_list_mul (F.args_list_mul_2 _ _) (AutoListH.list___mul___list_int_3 l items k x u (by simp [Builtin.List.listFitsIndex]; omega) (by omega) (by simp [Builtin.List.listTooLong, sizeLine]; omega)) ⟨hl, ?_⟩
  refine h _ ?_
  rw [foldl_rep]
  by_cases hi : items.isEmpty = true
  · have e : items = #[] := by simpa using hi
    subst e; simp [repL]
  · rw [if_neg hi]; simp

theorem txt_mul {x : Str} {n : Int} (h : 0 ≤ n) : Txt.mul x n = ⟨(repL n.toNat x.cps.toList).toArray⟩ := by
  unfold Txt.mul
  by_cases h1 : n < 1
  · rw [if_pos h1]
    have e : n = 0 := by omega
    subst e; rfl
  · rw [if_neg h1]
    split
    · rename_i h2
      simp only [Bool.or_eq_true, beq_iff_eq] at h2
      rcases h2 with h2 | h2
      · subst h2
        apply Str.ext'
        simp [repL]
      · have e : x.cps = #[] := Array.eq_empty_of_size_eq_zero h2
        apply Str.ext'
        simp [e, repL_nil]
    · congr 1
      apply Array.toList_inj.mp
      rw [foldl_rep]; simp
theorem rep_mem {α : Type} {n : Nat} {xs : List α} {c : α} (h : c ∈ repL n xs) : c ∈ xs := by
  unfold repL at h
  obtain ⟨l, hl, hc⟩ := List.mem_flatten.mp h
  rw [List.eq_of_mem_replicate hl] at hc; exact hc
theorem intP_inv {v : V} {P : Int → Prop} (h : intP v P) : ∃ i, v = .int i ∧ P i := by
  cases v <;> first | exact ⟨_, rfl, h⟩ | exact False.elim h
theorem strP_inv {v : V} {P : Str → Prop} (h : strP v P) : ∃ i, v = .str i ∧ P i := by
  cases v <;> first | exact ⟨_, rfl, h⟩ | exact False.elim h
theorem noneP_inv {v : V} {P : Prop} (h : noneP v P) : v = .none ∧ P := by
  cases v <;> first | exact ⟨rfl, h⟩ | exact False.elim h
theorem seqP_inv {H : AH} {v : V} {P : List V → Prop} (h : seqP H v P) : ∃ x, seqL H v = some x ∧ P x := by
  unfold seqP at h
  cases e : seqL H v with
  | none => rw [e] at h; exact False.elim h
  | some x => rw [e] at h; exact ⟨_, rfl, h⟩

theorem prim_bin {op : Bop} {u v : V} {a b : Value} {Q : V → Prop} {K : Value → Shared → Prop} (R : RmF d A) (T : TG prog mg mb s.heap) (ho : HO hsh H Sys s.heap) (hsys : ∀ a, Sys a → s.heap.get? a ≠ none)
    (hW : binV H op u v Q) (ra : RV (NN H Sys) s.heap u a) (rb : RV (NN H Sys) s.heap v b)
    (hK : ∀ r val s', Q r → RV (NN H Sys) s'.heap r val → Kp (FZ A Sys) s s' → Frsh (NN H Sys) s s' r val → K val s') :
    wpAny (model prog w) A (binaryOp (opOf op) a b) K E s := by
  cases op with
  | add =>
    have seq : ∀ {u : V} {a : Value}, RV (NN H Sys) s.heap u a → (seqP H u fun x => seqP H v fun y => x.length + y.length ≤ sizeLine ∧ Q (.lst (x ++ y))) → wpAny (model prog w) A (binaryOp .Add a b) K E s := by
      intro u a ra hW
      obtain ⟨x, e1, hW⟩ := seqP_inv hW
      obtain ⟨y, e2, hW⟩ := seqP_inv hW
      obtain ⟨a1, xs, n, rfl, hl, hz, rx⟩ := seqL_at ho ra e1
      obtain ⟨b1, ys, m, rfl, hl', hz', ry⟩ := seqL_at ho rb e2
      have hlen : xs.size + ys.size ≤ sizeLine := by
        have h1 := rx.length
        have h2 := ry.length
        simp only [Array.length_toList] at h1 h2
        rw [← h1, ← h2]; exact hW.1
      have rr : RVs (NN H Sys) s.heap (x ++ y) (xs ++ ys).toList := by rw [Array.toList_append]; exact rx.append ry
      have hzz : (xs ++ ys).size ≤ sizeLine := by rw [Array.size_append]; exact hlen
      exact P.add_list hl hl' (hK _ _ _ hW.2 (new_lst ho hsys rr hzz) (Kp.ofH (HK.push _ _)) (Frsh.mk (s := s) (s' := { s with heap := s.heap.push { cls := .type "list", data := .seq (xs ++ ys) } }) (fresh_size _) rr (HK.push _ _) (IsL.new _ _) hzz)) hlen
    cases u with
    | int i =>
      obtain ⟨j, rfl, hW⟩ := intP_inv hW
      cases ra; cases rb
      exact PyProof.Rows.add_int (hK _ _ _ hW (.int _ _) (Kp.tok s _) nofun)
    | str x =>
      obtain ⟨y, rfl, hW⟩ := strP_inv hW
      cases ra with
      | str _ _ o1 => cases rb with
        | str _ _ o2 => exact PyProof.Rows.add_str (fun t' tk => hK _ _ _ hW.2 (.str _ _ (o1.append o2 hW.1)) (Kp.tok s _) nofun) hW.1
    | _ => exact seq ra hW
  | sub =>
    obtain ⟨i, rfl, hW⟩ := intP_inv hW
    obtain ⟨j, rfl, hW⟩ := intP_inv hW
    cases ra; cases rb
    exact PyProof.Rows.sub_int (hK _ _ _ hW (.int _ _) (Kp.tok s _) nofun)
  | mul =>
    cases u with
    | int i =>
      obtain ⟨j, rfl, hW⟩ := intP_inv hW
      cases ra; cases rb
      refine PyProof.Rows.mul_int (hK _ _ _ hW.2 (.int _ _) (Kp.tok s _) nofun) ?_
      rcases hW.1 with h | h
      · exact IntMulOk.of_left (intBits_le_64 (by omega) (by omega))
      · exact IntMulOk.of_right (intBits_le_64 (by omega) (by omega))
    | lst vs =>
      obtain ⟨n, rfl, hW⟩ := intP_inv hW
      cases ra with
      | lst na hl hz rx =>
        rename_i a1 xs k
        cases rb with
        | int _ t =>
          have hlen : xs.size * n.toNat ≤ sizeLine := by
            have h1 := rx.length
            simp only [Array.length_toList] at h1
            rw [← h1]; exact hW.2.2.1
          refine mul_row hl hW.1 hW.2.1 hlen fun r hr => ?_
          have rr : RVs (NN H Sys) s.heap (repL n.toNat vs) r.toList := by rw [hr]; exact rx.repL _
          have hrs : r.size ≤ sizeLine := by
            rw [← Array.length_toList, hr, repL_length, Array.length_toList, Nat.mul_comm]; exact hlen
          exact hK _ _ _ hW.2.2.2 (new_lst ho hsys rr hrs) (Kp.ofH (HK.push _ _)) (Frsh.mk (s := s) (s' := { s with heap := s.heap.push { cls := .type "list", data := .seq r } }) (fresh_size _) rr (HK.push _ _) (IsL.new _ _) hrs)
    | str x =>
      obtain ⟨n, rfl, h0, h1, h2, hq⟩ := intP_inv hW
      cases ra with
      | str _ _ ox =>
        cases rb with
        | int _ t =>
          have hs' : sizeLine = 16777216 := rfl
          have hx := ox.1
          have hsz : x.length * n.toNat ≤ 16777216 := h2
          refine SB.mul ⟨by simp only [Bool.or_eq_false_iff, decide_eq_false_iff_not]; omega, fun h3 _ => ?_, fun h3 _ => ?_⟩ fun t' k => ?_
          · intro h4
            have h5 : (x.length : Int) * n ≤ 16777216 := by
              have : ((x.length * n.toNat : Nat) : Int) ≤ ((16777216 : Nat) : Int) := Int.ofNat_le.mpr hsz
              rwa [Int.natCast_mul, Int.toNat_of_nonneg h0] at this
            have h6 : (2 ^ 63 - 1) / n * n ≤ (2 ^ 63 - 1 : Int) := Int.ediv_mul_le _ (by omega)
            have h7 : (2 ^ 63 - 1 : Int) < ((2 ^ 63 - 1) / n + 1) * n := Int.lt_ediv_add_one_mul_self _ (by omega)
            have h8 : ((2 ^ 63 - 1) / n + 1) * n ≤ (x.length : Int) * n := Int.mul_le_mul_of_nonneg_right (by omega) h0
            omega
          · unfold Builtin.Str.tooLong
            exact decide_eq_false (by omega)
          · rw [txt_mul h0]
            refine hK _ _ _ hq (.str _ _ ⟨?_, fun c hc => ?_⟩) (Kp.tok s _) nofun
            · show (repL n.toNat x.cps.toList).toArray.size ≤ sizeLine
              rw [List.size_toArray, repL_length, Array.length_toList, Nat.mul_comm]; exact h2
            · exact ox.2 c (rep_mem (by simpa using hc))
    | _ => exact False.elim hW
  | fdiv =>
    obtain ⟨i, rfl, hW⟩ := intP_inv hW
    obtain ⟨j, rfl, hW⟩ := intP_inv hW
    cases ra; cases rb
    exact PyProof.Rows.floordiv_int hW.1 (hK _ _ _ hW.2 (.int _ _) (Kp.tok s _) nofun) (.inr (pylong R T))
  | mod =>
    obtain ⟨i, rfl, hW⟩ := intP_inv hW
    obtain ⟨j, rfl, hW⟩ := intP_inv hW
    cases ra; cases rb
    exact PyProof.Rows.mod_int hW.1 (hK _ _ _ hW.2 (.int _ _) (Kp.tok s _) nofun)
  | pow =>
    obtain ⟨i, rfl, hW⟩ := intP_inv hW
    obtain ⟨j, rfl, h1, h2, hq⟩ := intP_inv hW
    cases h1; cases h2
    cases ra; cases rb
    exact PyProof.Rows.pow_int (by decide) (by decide) (hK (.int (10 ^ Int.toNat 30)) _ _ (by rw [show (10 : Int) ^ Int.toNat 30 = 1000000000000000000000000000000 from by decide]; exact hq) (.int _ _) (Kp.tok s _) nofun)
end

end Mine
end

section
set_option autoImplicit false
namespace Mine
open PySem

structure PG where
  prog : Program
  w : World
  mg : Str → Option Value
  mb : Str → Option Value
  tbl : Tbl
  gtab : List (String × V)
  ctab : Clss
  xs : List String
  hots : List String
/-- the hash of a key that is a tuple of numbers and texts -/
noncomputable def atHash (w : World) : At → Int
  | .i n => hashInt n
  | .s x => hashStr w x
noncomputable def wHash (w : World) : HFn := fun ks => reduceHash (Builtin.Tuple.tupleHashOf (ks.map (atHash w)))
noncomputable def PG.hf (G : PG) : HFn := wHash G.w

noncomputable def bnames : List String := ["len", "isinstance", "int", "bool", "str", "tuple", "list", "sum", "max", "min", "reversed", "range", "enumerate", "zip", "ValueError"]
noncomputable def btypes : List String := ["int", "bool", "str", "tuple", "list", "reversed", "range", "enumerate", "zip", "ValueError"]
noncomputable def bval (n : String) : Value := if n ∈ btypes then .type n else .builtin n

noncomputable def bmV : List Value := [.type "ValueError", .type "Exception", .type "BaseException", .type "object"]
/-- an own class of exceptions -/
noncomputable def qNames : List Str := ["__getattribute__", "__getattr__", "__class__"]
/-- an own exception's line of classes: none of these names is set in it ahead of ValueError -/
inductive QTail (h : Heap) : List Value → Prop
  | base : QTail h bmV
  | own {A : Addr} {c0 : Value} {dd : Option Addr} {cd : ClassData} {sl : Array (Option Value)} {mA : Str → Option Value} {tl : List Value} :
      h.get? A = some { cls := c0, dict := dd, data := .cls cd, slots := sl } → h.Ns cd.ns mA → (∀ n ∈ qNames, mA n = none) → QTail h tl → QTail h (.ref A :: tl)
theorem QTail.keeps {h h' : Heap} {l : List Value} (x : QTail h l) (k : HK h h') : QTail h' l := by
  induction x with
  | base => exact .base
  | own h1 h2 h3 _ ih => exact .own (k _ _ h1) (h2.keeps k) h3 ih
inductive XRow (mg : Str → Option Value) (h : Heap) (xs : List String) (c : String) : Prop
  | mk (C bm N nm q bs hdct sn sub ab col dd k0 k1 k2 k3 k5 mN) : mg (Str.ofString c) = some (.ref C) → h.get? C = some (excClassObj nm q C N bs bm hdct sn sub ab col dd k0 k1 k2 k3 k5 "ValueError.__new__") → h.Ns N mN → mN "__init__" = none → OwnTail h bmV bm →
    (∀ t ∈ xs, ∀ D, mg (Str.ofString t) = some (.ref D) → (Value.ref C :: bm).contains (.ref D) = subX c t) → QTail h (.ref C :: bm) → XRow mg h xs c
theorem XRow.keeps {mg : Str → Option Value} {h h' : Heap} {xs : List String} {c : String} (x : XRow mg h xs c) (k : HK h h') : XRow mg h' xs c :=
  let ⟨C, bm, N, nm, q, bs, hdct, sn, sub, ab, col, dd, k0, k1, k2, k3, k5, mN, h1, h2, h3, h4, h5, h6, h7⟩ := x; ⟨C, bm, N, nm, q, bs, hdct, sn, sub, ab, col, dd, k0, k1, k2, k3, k5, mN, h1, k _ _ h2, h3.keeps k, h4, h5.keeps k, h6, h7.keeps k⟩
structure TT (G : PG) (h : Heap) : Prop extends TG G.prog G.mg G.mb h where
  bl : ∀ n ∈ bnames, G.mg (Str.ofString n) = none ∧ G.mb (Str.ofString n) = some (bval n)
  fn : ∀ f fn, G.tbl.lookup f = some fn → ∃ (dr : DefRec) (a : Addr) (o : Obj) (pm code doc : Value), G.mg (Str.ofString f) = some (.ref a) ∧ h.get? a = some o ∧
    o.data = .func (Calls.docDef dr.name dr.params dr.body dr.scope pm code doc) ∧ h.CodeRec code dr.name ∧ chkFn (G.tbl.map (·.1)) G.xs (G.hots.contains f) G.hots fn dr = true
  gl : ∀ x v, G.gtab.lookup x = some v → (∃ i t, v = .int i ∧ G.mg (Str.ofString x) = some (.int i t)) ∨ (∃ u t, v = .str u ∧ SOk u ∧ G.mg (Str.ofString x) = some (.str u t))
  ex : ∀ c ∈ G.xs, XRow G.mg h G.xs c
  exn : ∀ c ∈ allX, c ∈ G.xs ∨ G.mg (Str.ofString c) = none
theorem TT.keeps {G : PG} {h h' : Heap} (x : TT G h) (k : HK h h') : TT G h' :=
  ⟨x.toTG.keeps k, x.bl, fun f fn e => let ⟨dr, a, o, pm, code, doc, h1, h2, h3, h4, h5⟩ := x.fn f fn e; ⟨dr, a, o, pm, code, doc, h1, k _ _ h2, h3, h4.keeps k, h5⟩, x.gl
  , fun c hc => (x.ex c hc).keeps k, x.exn
  ⟩

noncomputable def PG.cx (G : PG) (d : Nat) : Cx := cxN G.tbl G.gtab G.ctab d

/-- all that a frame's expressions are read against -/
structure Fx0 (G : PG) (d : Nat) (c : Sc) (A : Around) (env : Env) (lay : Nat → Option Place) (Sys : Addr → Prop) (base : Heap) (st : St) (s : Shared) : Prop where
  rm : RmF d A
  eo : EnvOk env c.names c.σ lay
  us : ∀ i p, lay i = some p → i < c.used
  sim : Sim G.hf (TT G) lay Sys (FZ A Sys) base st s.heap
  own : ∃ L, env.frame = some L ∧ ∃ e l, A.frames = some (e :: l) ∧ e.frame = some L
  cold : c.hot = false → A.handled = none
structure Fx (G : PG) (d : Nat) (c : Sc) (A : Around) (env : Env) (lay : Nat → Option Place) (Sys : Addr → Prop) (base : Heap) (st : St) (s : Shared) : Prop extends Fx0 G d c A env lay Sys base st s where
  fr : FrOk A Sys s.heap
  hd : (c.hot = true ∧ c.dead = true) ∨ HdOk A Sys s.heap
theorem Fx.keeps {G : PG} {d : Nat} {c : Sc} {A : Around} {env : Env} {lay : Nat → Option Place} {Sys : Addr → Prop} {base : Heap} {st : St} {s s' : Shared} (x : Fx G d c A env lay Sys base st s) (k : Kp (FZ A Sys) s s') :
    Fx G d c A env lay Sys base st s' := ⟨⟨x.rm, x.eo, x.us, x.sim.kz k.hw, x.own, x.cold⟩, x.fr.kz k.hw, x.hd.imp id fun q => q.kz k.hw⟩
theorem Fx.za {G : PG} {d : Nat} {c : Sc} {A : Around} {env : Env} {lay : Nat → Option Place} {Sys : Addr → Prop} {base : Heap} {st : St} {s : Shared} (x : Fx G d c A env lay Sys base st s) {b : Addr} (q : ZA A b) : Sys b :=
  let ⟨_, e, h1, h2, h3⟩ := q; let ⟨_, _, h4, f⟩ := x.fr; by
    rw [h1] at h4; cases h4
    obtain ⟨_, L, _, g1, g2, _⟩ := f e h2
    rw [h3] at g1; cases g1; exact g2
theorem Fx.nz {G : PG} {d : Nat} {c : Sc} {A : Around} {env : Env} {lay : Nat → Option Place} {Sys : Addr → Prop} {base : Heap} {st : St} {s : Shared} (x : Fx G d c A env lay Sys base st s) {b : Addr} (q : s.heap.get? b = none) : ¬ ZA A b := fun z => x.sim.live b (x.za z) q
theorem Fx.hdo {G : PG} {d : Nat} {c : Sc} {A : Around} {env : Env} {lay : Nat → Option Place} {Sys : Addr → Prop} {base : Heap} {st : St} {s : Shared} (x : Fx G d c A env lay Sys base st s) (q : c.dead = false) : HdOk A Sys s.heap := x.hd.resolve_left fun h => by rw [q] at h; exact ff h.2
theorem Fx.top {G : PG} {d : Nat} {c : Sc} {A : Around} {env : Env} {lay : Nat → Option Place} {Sys : Addr → Prop} {base : Heap} {st : St} {s : Shared} (x : Fx G d c A env lay Sys base st s) : TT G s.heap := let ⟨_, t, k, _⟩ := x.sim.topH; t.keeps k

noncomputable abbrev SE (G : PG) (d : Nat) (c : Sc) (e : E) (x : Expr) : Prop :=
  ∀ {A : Around} {env : Env} {lay : Nat → Option Place} {Sys : Addr → Prop} {base : Heap} {st : St} {s : Shared}, Fx G d c A env lay Sys base st s →
    Snd G.prog G.w G.mg A (NN st.H Sys) Sys s (isFresh e) (eval x env) (WE (G.cx d) e st)

theorem Snd.weak {prog : Program} {w : World} {mg : Str → Option Value} {A : Around} {N Z : Addr → Prop} {s : Shared} {f : Bool} {t : Sem Value} {W : (V → Prop) → (String → Prop) → Prop} (h : Snd prog w mg A N Z s f t W) : Snd prog w mg A N Z s false t W :=
  fun Q X K E hW hK hX => h Q X K E hW (fun v val s' q r k _ => hK v val s' q r k nofun) hX

theorem fresh_keeps {Z : Addr → Prop} {s s' : Shared} (k : Kp Z s s') {a : Addr} (e : s'.heap.get? a = none) : s.heap.get? a = none := k.hw.ext e

section
variable {G : PG} {d : Nat} {c : Sc} {A : Around} {env : Env} {lay : Nat → Option Place} {Sys : Addr → Prop} {base : Heap} {st : St} {s : Shared}

theorem isVar_eq {x : Str} {i : Nat} (h : isVar c x i = true) : c.σ.lookup x = some i ∧ (x == ("__debug__" : Str)) = false := by
  simp only [isVar, Bool.and_eq_true, decide_eq_true_eq, Bool.not_eq_true'] at h; exact h
theorem isGlob_eq {x : Str} {n : String} (h : isGlob c x n = true) : x = Str.ofString n ∧ c.names.lookup x = some .globalImplicit ∧ (x == ("__debug__" : Str)) = false := by
  simp only [isGlob, Bool.and_eq_true, decide_eq_true_eq, Bool.not_eq_true'] at h; exact ⟨h.1.1.1, h.1.1.2, h.1.2⟩
theorem isGlob_hot {x : Str} {n : String} (h : isGlob c x n = true) : hotOk c n = true := ((Bool.and_eq_true _ _).mp h).2
theorem ld_glob {M : Model} {E : Value → Shared → Prop} {x : Str} {n : String} {v : Value} {pos : Pos} {Q : Value → Shared → Prop} (F : Fx G d c A env lay Sys base st s) (hg : isGlob c x n = true) (hv : G.mg (Str.ofString n) = some v) (h : Q v s) :
    wpAny M A (eval (.Name x pos) env) Q E s := by
  obtain ⟨rfl, h2, h3⟩ := isGlob_eq hg
  exact Calls.Name_function_global F.eo.kind (F.eo.gl _ h2) (Calls.loadGlobal_global (by rw [F.eo.glob]; exact F.top.g) hv h) h3
theorem ld_bltn {M : Model} {E : Value → Shared → Prop} {x : Str} {n : String} {pos : Pos} {Q : Value → Shared → Prop} (F : Fx G d c A env lay Sys base st s) (hg : isGlob c x n = true) (hn : n ∈ bnames) (h : Q (bval n) s) :
    wpAny M A (eval (.Name x pos) env) Q E s := by
  obtain ⟨rfl, h2, h3⟩ := isGlob_eq hg
  exact Calls.Name_function_global F.eo.kind (F.eo.gl _ h2) (Calls.loadGlobal_builtin (by rw [F.eo.glob]; exact F.top.g) (F.top.bl n hn).1 (by rw [F.eo.blt]; exact F.top.b) (F.top.bl n hn).2 h) h3

theorem se_var {i : Nat} {x : Str} {pos : Pos} (F : Fx G d c A env lay Sys base st s) (hx : isVar c x i = true) : Snd G.prog G.w G.mg A (NN st.H Sys) Sys s false (eval (.Name x pos) env) (WE (G.cx d) (.var i) st) := by
  intro Q X K E hW hK hX
  obtain ⟨h1, h2⟩ := isVar_eq hx
  simp only [we_0, we_1, we_2, we_3, we_4, we_5, we_6, we_7, we_8, we_9, we_10, we_11, we_12, we_13, we_14, we_15, we_16, we_17, we_18, we_19, we_20, we_21, we_22, we_23, we_24, we_25, we_26, we_27, we_28, we_29, we_30, we_31, we_32, we_33, we_34, we_35, we_36, we_37] at hW
  split at hW
  · rename_i v hv
    exact wpAny_Name (ld_var F.eo F.sim h1 hv fun val r => hK v val s hW r (Kp.refl s) nofun) h2
  · exact hW.elim

theorem se_glob {g : String} {x : Str} {pos : Pos} (F : Fx G d c A env lay Sys base st s) (hx : isGlob c x g = true) : Snd G.prog G.w G.mg A (NN st.H Sys) Sys s false (eval (.Name x pos) env) (WE (G.cx d) (.glob g) st) := by
  intro Q X K E hW hK hX
  simp only [we_0, we_1, we_2, we_3, we_4, we_5, we_6, we_7, we_8, we_9, we_10, we_11, we_12, we_13, we_14, we_15, we_16, we_17, we_18, we_19, we_20, we_21, we_22, we_23, we_24, we_25, we_26, we_27, we_28, we_29, we_30, we_31, we_32, we_33, we_34, we_35, we_36, we_37] at hW
  split at hW
  · rename_i v hv
    rcases F.top.gl g v hv with ⟨i, t, rfl, e⟩ | ⟨u, t, rfl, hu, e⟩
    · exact ld_glob F hx e (hK _ _ s hW (.int i t) (Kp.refl s) nofun)
    · exact ld_glob F hx e (hK _ _ s hW (.str u t hu) (Kp.refl s) nofun)
  · exact hW.elim

theorem se_bin {op : Bop} {a b : E} {l r : Expr} {pos : Pos} (F : Fx G d c A env lay Sys base st s) (ha : SE G d c a l) (hb : SE G d c b r) :
    Snd G.prog G.w G.mg A (NN st.H Sys) Sys s true (eval (.BinOp l (opOf op) r pos) env) (WE (G.cx d) (.bin op a b) st) := by
  intro Q X K E hW hK hX
  simp only [we_0, we_1, we_2, we_3, we_4, we_5, we_6, we_7, we_8, we_9, we_10, we_11, we_12, we_13, we_14, we_15, we_16, we_17, we_18, we_19, we_20, we_21, we_22, we_23, we_24, we_25, we_26, we_27, we_28, we_29, we_30, we_31, we_32, we_33, we_34, we_35, we_36, we_37] at hW
  refine wpAny_BinOp ((ha F).weak _ X _ E hW (fun u va s₁ h₁ r₁ k₁ _ => ?_) hX)
  have F₁ := F.keeps k₁
  refine (hb F₁).weak _ X _ E h₁ (fun v vb s₂ h₂ r₂ k₂ _ => ?_) (fun e s' q => hX e s' (Rz.trans k₁ q))
  have F₂ := F₁.keeps k₂
  exact prim_bin F₂.rm F₂.top.toTG F₂.sim.objs F₂.sim.live h₂ (r₁.kz k₂.hw) r₂ fun r val s' q rv k f => hK r val s' q rv ((k₁.trans k₂).trans k) fun _ => f.before (k₁.trans k₂)

theorem truth_bool {H : AH} {N : Addr → Prop} {h : Heap} {u : V} {x : Value} {b : Bool} (r : RV N h u x) (e : truthV H u = some b) : x = .bool b := by
  cases r <;> simp [tv_none, tv_bool, tv_int, tv_str, tv_tup, tv_lst, tv_ref, tv_inst, tv_iref, tv_exc, tv_dct] at e
  subst e; rfl

theorem se_not {a : E} {y : Expr} {pos : Pos} (F : Fx G d c A env lay Sys base st s) (ha : SE G d c a y) :
    Snd G.prog G.w G.mg A (NN st.H Sys) Sys s false (eval (.UnaryOp .Not y pos) env) (WE (G.cx d) (.not a) st) := by
  intro Q X K E hW hK hX
  simp only [we_0, we_1, we_2, we_3, we_4, we_5, we_6, we_7, we_8, we_9, we_10, we_11, we_12, we_13, we_14, we_15, we_16, we_17, we_18, we_19, we_20, we_21, we_22, we_23, we_24, we_25, we_26, we_27, we_28, we_29, we_30, we_31, we_32, we_33, we_34, we_35, we_36, we_37] at hW
  refine wpAny_UnaryOp ((ha F).weak _ X _ E hW (fun u va s₁ h₁ r₁ k₁ _ => ?_) hX)
  split at h₁
  · rename_i b hb
    obtain rfl := truth_bool r₁ hb
    exact not_value (wpAny_truthy_bool (hK _ _ _ h₁ (.bool _) k₁ nofun))
  · exact h₁.elim

theorem se_neg {a : E} {y : Expr} {pos : Pos} (F : Fx G d c A env lay Sys base st s) (ha : SE G d c a y) :
    Snd G.prog G.w G.mg A (NN st.H Sys) Sys s false (eval (.UnaryOp .USub y pos) env) (WE (G.cx d) (.neg a) st) := by
  intro Q X K E hW hK hX
  simp only [we_0, we_1, we_2, we_3, we_4, we_5, we_6, we_7, we_8, we_9, we_10, we_11, we_12, we_13, we_14, we_15, we_16, we_17, we_18, we_19, we_20, we_21, we_22, we_23, we_24, we_25, we_26, we_27, we_28, we_29, we_30, we_31, we_32, we_33, we_34, we_35, we_36, we_37] at hW
  refine wpAny_UnaryOp ((ha F).weak _ X _ E hW (fun u va s₁ h₁ r₁ k₁ _ => ?_) hX)
  split at h₁
  · cases r₁
    exact PyProof.Rows.neg_int (hK _ _ _ h₁ (.int _ _) (k₁.trans (Kp.tok s₁ _)) nofun)
  · exact h₁.elim

theorem se_and {a b : E} {x y : Expr} {pos : Pos} (F : Fx G d c A env lay Sys base st s) (ha : SE G d c a x) (hb : SE G d c b y) :
    Snd G.prog G.w G.mg A (NN st.H Sys) Sys s false (eval (.BoolOp .And [x, y] pos) env) (WE (G.cx d) (.and a b) st) := by
  intro Q X K E hW hK hX
  simp only [we_0, we_1, we_2, we_3, we_4, we_5, we_6, we_7, we_8, we_9, we_10, we_11, we_12, we_13, we_14, we_15, we_16, we_17, we_18, we_19, we_20, we_21, we_22, we_23, we_24, we_25, we_26, we_27, we_28, we_29, we_30, we_31, we_32, we_33, we_34, we_35, we_36, we_37] at hW
  refine wpAny_And2 ((ha F).weak _ X _ E hW (fun u va s₁ h₁ r₁ k₁ _ => ?_) hX)
  split at h₁
  · rename_i hb'
    obtain rfl := truth_bool r₁ hb'
    refine wpAny_truthy_bool ?_
    rw [if_pos rfl]
    exact (hb (F.keeps k₁)).weak _ X _ E h₁ (fun v val s' q r k _ => hK v val s' q r (k₁.trans k) nofun) fun e s' q => hX e s' (Rz.trans k₁ q)
  · rename_i hb'
    obtain rfl := truth_bool r₁ hb'
    refine wpAny_truthy_bool ?_
    rw [if_neg (by simp)]
    exact hK _ _ _ h₁ r₁ k₁ nofun
  · exact h₁.elim
theorem se_or {a b : E} {x y : Expr} {pos : Pos} (F : Fx G d c A env lay Sys base st s) (ha : SE G d c a x) (hb : SE G d c b y) :
    Snd G.prog G.w G.mg A (NN st.H Sys) Sys s false (eval (.BoolOp .Or [x, y] pos) env) (WE (G.cx d) (.or a b) st) := by
  intro Q X K E hW hK hX
  simp only [we_0, we_1, we_2, we_3, we_4, we_5, we_6, we_7, we_8, we_9, we_10, we_11, we_12, we_13, we_14, we_15, we_16, we_17, we_18, we_19, we_20, we_21, we_22, we_23, we_24, we_25, we_26, we_27, we_28, we_29, we_30, we_31, we_32, we_33, we_34, we_35, we_36, we_37] at hW
  refine wpAny_Or2 ((ha F).weak _ X _ E hW (fun u va s₁ h₁ r₁ k₁ _ => ?_) hX)
  split at h₁
  · rename_i hb'
    obtain rfl := truth_bool r₁ hb'
    refine wpAny_truthy_bool ?_
    rw [if_pos rfl]
    exact hK _ _ _ h₁ r₁ k₁ nofun
  · rename_i hb'
    obtain rfl := truth_bool r₁ hb'
    refine wpAny_truthy_bool ?_
    rw [if_neg (by simp)]
    exact (hb (F.keeps k₁)).weak _ X _ E h₁ (fun v val s' q r k _ => hK v val s' q r (k₁.trans k) nofun) fun e s' q => hX e s' (Rz.trans k₁ q)
  · exact h₁.elim

end

end Mine
end

section
set_option autoImplicit false
namespace Mine
open PySem

/-- a value that leaves its frame -/
theorem frz_ok {hsh : HFn} {H B : AH} {Sys Sys' : Addr → Prop} {h : Heap} (ho : HO hsh H Sys' h) (hsub : ∀ a, Sys a → Sys' a) (hB : ∀ a, B a ≠ none → H a ≠ none) (hown : ∀ a, H a ≠ none → B a = none → ¬ Sys a) :
    ∀ (n : Nat), (∀ (v v' : V) (x : Value), frz H B n v = some v' → RV (NN H Sys') h v x → RV (NN B Sys) h v' x) ∧ (∀ (vs vs' : List V) (xs : List Value), frzs H B n vs = some vs' → RVs (NN H Sys') h vs xs → RVs (NN B Sys) h vs' xs) := by
  have hN : ∀ a, ¬ NN H Sys' a → ¬ NN B Sys a := fun a q q' => q (q'.elim (fun e => .inl (hB a e)) fun e => .inr (hsub a e))
  have all : ∀ n, (∀ (v v' : V) (x : Value), frz H B n v = some v' → RV (NN H Sys') h v x → RV (NN B Sys) h v' x) → (∀ (vs vs' : List V) (xs : List Value), frzs H B n vs = some vs' → RVs (NN H Sys') h vs xs → RVs (NN B Sys) h vs' xs) := by
    intro n hv vs
    induction vs with
    | nil => intro vs' xs e r; simp [fzs_nil, fzs_cons] at e; subst e; cases r; exact .nil
    | cons v vs ih =>
      intro vs' xs e r
      cases r with
      | cons r1 r2 =>
        simp only [fzs_nil, fzs_cons] at e
        split at e
        · rename_i x' xs' e1 e2
          cases e
          exact .cons (hv _ _ _ e1 r1) (ih _ _ e2 r2)
        · cases e
  intro n
  induction n with
  | zero =>
    have h0 : ∀ (v v' : V) (x : Value), frz H B 0 v = some v' → RV (NN H Sys') h v x → RV (NN B Sys) h v' x := fun v v' x e _ => by simp [fz_zero, fz_none, fz_bool, fz_int, fz_str, fz_tup, fz_lst, fz_inst, fz_ref, fz_iref] at e
    exact ⟨h0, all 0 h0⟩
  | succ n ih =>
    have hs : ∀ (v v' : V) (x : Value), frz H B (n + 1) v = some v' → RV (NN H Sys') h v x → RV (NN B Sys) h v' x := by
      intro v v' x e r
      cases r with
      | none => simp [fz_zero, fz_none, fz_bool, fz_int, fz_str, fz_tup, fz_lst, fz_inst, fz_ref, fz_iref] at e; subst e; exact .none
      | bool b => simp [fz_zero, fz_none, fz_bool, fz_int, fz_str, fz_tup, fz_lst, fz_inst, fz_ref, fz_iref] at e; subst e; exact .bool b
      | int i t => simp [fz_zero, fz_none, fz_bool, fz_int, fz_str, fz_tup, fz_lst, fz_inst, fz_ref, fz_iref] at e; subst e; exact .int i t
      | str u t o => simp [fz_zero, fz_none, fz_bool, fz_int, fz_str, fz_tup, fz_lst, fz_inst, fz_ref, fz_iref] at e; subst e; exact .str u t o
      | tup h1 h2 h3 h4 =>
        simp only [fz_zero, fz_none, fz_bool, fz_int, fz_str, fz_tup, fz_lst, fz_inst, fz_ref, fz_iref, Option.map_eq_some_iff] at e
        obtain ⟨vs', e1, rfl⟩ := e
        exact .tup (hN _ h1) h2 h3 (ih.2 _ _ _ e1 h4)
      | lst h1 h2 h3 h4 =>
        simp only [fz_zero, fz_none, fz_bool, fz_int, fz_str, fz_tup, fz_lst, fz_inst, fz_ref, fz_iref, Option.map_eq_some_iff] at e
        obtain ⟨vs', e1, rfl⟩ := e
        exact .lst (hN _ h1) h2 h3 (ih.2 _ _ _ e1 h4)
      | exc h1 h2 h3 => cases (show some _ = some _ from e); exact .exc (hN _ h1) (hN _ h2) h3
      | ref a =>
        simp only [fz_zero, fz_none, fz_bool, fz_int, fz_str, fz_tup, fz_lst, fz_inst, fz_ref, fz_iref] at e
        split at e
        · cases e; exact .ref a
        · rename_i hBa
          split at e
          · rename_i vs hH
            simp only [Option.map_eq_some_iff] at e
            obtain ⟨vs', e1, rfl⟩ := e
            cases ho _ _ hH with
            | list h1 h2 h3 =>
              refine .lst (fun q => ?_) h1 h2 (ih.2 _ _ _ e1 h3)
              rcases q with q | q
              · exact q hBa
              · exact hown a (by rw [hH]; simp) hBa q
          · cases e
    exact ⟨hs, all (n + 1) hs⟩


/-- what a call leaves to its caller -/
structure Given (hsh : HFn) (H H' : AH) (Sys Sys' : Addr → Prop) (s s' : Shared) : Prop where
  ho : HO hsh H' Sys' s'.heap
  sub : ∀ a, Sys a → Sys' a
  stay : ∀ a, H a ≠ none → H' a ≠ none
  own : ∀ a, H' a ≠ none → H a = none → s.heap.get? a = none
  dis : ∀ a, Sys' a → H' a = none
theorem Given.before {hsh : HFn} {H H' : AH} {Sys Sys' Z : Addr → Prop} {s₀ s s' : Shared} (g : Given hsh H H' Sys Sys' s s') (k : Kp Z s₀ s) : Given hsh H H' Sys Sys' s₀ s' := ⟨g.ho, g.sub, g.stay, fun a q q' => k.hw.ext (g.own a q q'), g.dis⟩
theorem give_all {hsh : HFn} {H H' : AH} {Sys Sys' : Addr → Prop} {s s' : Shared} {a : Addr} (g : Given hsh H H' Sys Sys' s s') (ha : H' a ≠ none) : ∀ {ws ws' : List V} {xs : List Value}, mapO (giveV H' H a) ws = some ws' → RVs (NN H' Sys') s'.heap ws xs → RVs (fun b => NN H Sys b ∨ b = a) s'.heap ws' xs := by
  have hN : ∀ b, (NN H Sys b ∨ b = a) → NN H' Sys' b ∨ s'.heap.get? b = none := fun b q => .inl (q.elim (fun q => q.elim (fun q => .inl (g.stay b q)) fun q => .inr (g.sub b q)) fun e => .inl (e ▸ ha))
  intro ws
  induction ws with
  | nil => intro ws' xs e r; cases e; cases r; exact .nil
  | cons w ws ih =>
    intro ws' xs e r
    cases r with
    | cons r1 r2 =>
      simp only [mapO] at e
      split at e
      · rename_i x' xs' e1 e2
        cases e
        refine .cons ?_ (ih e2 r2)
        by_cases hw : ∃ b, w = .ref b
        · obtain ⟨b, rfl⟩ := hw
          cases r1
          simp only [giveV] at e1
          split at e1
          · cases e1
          · rename_i hba
            split at e1
            · cases e1
            · rename_i hHb
              split at e1
              · rename_i us hus
                cases e1
                cases g.ho _ _ hus with
                | list h1 h2 h3 =>
                  refine .lst (fun q => ?_) h1 h2 (h3.gen hN fun b o _ e => e)
                  rcases q with (q | q) | q
                  · exact q hHb
                  · rw [g.dis b (g.sub b q)] at hus; cases hus
                  · exact hba q
              · cases e1
        · have : x' = w := by
            cases w <;> first | exact absurd ⟨_, rfl⟩ hw | (cases e1; rfl)
          subst this
          exact r1.gen hN fun b o _ e => e
      · cases e
theorem give_ok {hsh : HFn} {H H' : AH} {Sys Sys' : Addr → Prop} {s s' : Shared} {v : V} {val : Value} {Q : List V → Prop} (g : Given hsh H H' Sys Sys' s s') (q : giveP H' H v Q) (r : RV (NN H' Sys') s'.heap v val) :
    ∃ a ws xs n, Q ws ∧ val = .ref a ∧ s.heap.get? a = none ∧ IsL s'.heap a xs n ∧ xs.size ≤ sizeLine ∧ RVs (fun b => NN H Sys b ∨ b = a) s'.heap ws xs.toList := by
  unfold giveP at q
  split at q
  · rename_i a
    cases r
    split at q
    · exact q.elim
    · rename_i hHa
      split at q
      · rename_i ws hws
        split at q
        · rename_i ws' e
          have hne : H' a ≠ none := by rw [hws]; exact nofun
          cases g.ho _ _ hws with
          | list h1 h2 h3 => exact ⟨a, ws', _, _, q, rfl, g.own a hne hHa, h1, h2, give_all g hne e h3⟩
        · exact q.elim
      · exact q.elim
  · exact q.elim
end Mine
end

section
set_option autoImplicit false
namespace Mine
open PySem

theorem dictP_inv {H : AH} {u : V} {P : Nat → List (List At × V) → Prop} (h : dictP H u P) : ∃ a kvs, u = .ref a ∧ H a = some (.dict kvs) ∧ P a kvs := by
  cases u with
  | ref a =>
    have h : (match H a with
      | some (.dict kvs) => P a kvs
      | _ => False) := h
    cases e : H a with
    | none => rw [e] at h; exact h.elim
    | some o =>
      rw [e] at h
      cases o with
      | dict kvs => exact ⟨a, kvs, rfl, e, h⟩
      | _ => exact h.elim
  | _ => exact False.elim h
theorem noDict {hsh : HFn} {H : AH} {Sys : Addr → Prop} {h : Heap} {u : V} {P : Nat → List (List At × V) → Prop} (ho : HO hsh H Sys h) (hW : dictP H u P) : False := by
  obtain ⟨a, kvs, _, e, _⟩ := dictP_inv hW
  cases ho a _ e
end Mine
end

section
set_option autoImplicit false
namespace Mine
open PySem PySem.F
end Mine
end

section
set_option autoImplicit false
namespace Mine
open PySem

noncomputable def RdP (h : Heap) (v : V) (x : Value) : Prop := ∀ d, toD v = some d → (∃ as, Reads h x d as) ∧ d.canLay0 = true
noncomputable def RdPs (h : Heap) (vs : List V) (xs : List Value) : Prop := ∀ ds, toDs vs = some ds → (∃ as, ReadsAll h xs ds as) ∧ PyData.canLayAll0 ds = true
section
variable {N : Addr → Prop} {h : Heap}
theorem rd_none : RdP h .none .none := fun _ e => by cases (show some PyData.none = some _ from e); exact ⟨⟨_, .none⟩, by simp [PyData.canLay0]⟩
theorem rd_bool (b : Bool) : RdP h (.bool b) (.bool b) := fun _ e => by cases (show some (PyData.bool b) = some _ from e); exact ⟨⟨_, .bool b⟩, by simp [PyData.canLay0]⟩
theorem rd_int (i : Int) (t : Tok) : RdP h (.int i) (.int i t) := fun _ e => by cases (show some (PyData.int i) = some _ from e); exact ⟨⟨_, .int i _⟩, by simp [PyData.canLay0]⟩
theorem rd_str (u : Str) (t : Tok) (ho : SOk u) : RdP h (.str u) (.str u t) := fun _ e => by cases (show some (PyData.str u) = some _ from e); exact ⟨⟨_, .str u _⟩, by simp [PyData.canLay0, ho.strOk]⟩
theorem rd_tup {a : Addr} {xs : Array Value} {n : Nat} {vs : List V} (h2 : IsT h a xs n) (i : RdPs h vs xs.toList) : RdP h (.tup vs) (.ref a) := fun d e => by
  obtain ⟨ds, e1, rfl⟩ := Option.map_eq_some_iff.mp (show (toDs vs).map PyData.tuple = some d from e)
  obtain ⟨⟨as, ra⟩, hc⟩ := i ds e1
  exact ⟨⟨_, .tuple h2 rfl rfl ra⟩, by simpa [PyData.canLay0] using hc⟩
theorem rd_lst {a : Addr} {xs : Array Value} {n : Nat} {vs : List V} (h2 : IsL h a xs n) (i : RdPs h vs xs.toList) : RdP h (.lst vs) (.ref a) := fun d e => by
  obtain ⟨ds, e1, rfl⟩ := Option.map_eq_some_iff.mp (show (toDs vs).map PyData.list = some d from e)
  obtain ⟨⟨as, ra⟩, hc⟩ := i ds e1
  exact ⟨⟨_, .list h2 rfl rfl ra⟩, by simpa [PyData.canLay0] using hc⟩
theorem rd_nil : RdPs h [] [] := fun _ e => by cases (show some ([] : List PyData) = some _ from e); exact ⟨⟨_, .nil⟩, by simp [PyData.canLayAll0]⟩
theorem rd_cons {v : V} {x : Value} {vs : List V} {xs : List Value} (i : RdP h v x) (j : RdPs h vs xs) : RdPs h (v :: vs) (x :: xs) := fun ds e => by
  have e : (match toD v, toDs vs with
    | some d, some ds => some (d :: ds)
    | _, _ => none) = some ds := e
  cases e1 : toD v with
  | none => rw [e1] at e; cases e
  | some d =>
    cases e2 : toDs vs with
    | none => rw [e1, e2] at e; cases e
    | some ds' =>
      rw [e1, e2] at e
      cases e
      obtain ⟨⟨as, ra⟩, ha⟩ := i d e1
      obtain ⟨⟨bs, rb⟩, hb⟩ := j ds' e2
      exact ⟨⟨_, .cons ra rb⟩, by simp [PyData.canLayAll0, ha, hb]⟩
theorem reads_of (v : V) (x : Value) (d : PyData) (r : RV N h v x) : toD v = some d → (∃ as, Reads h x d as) ∧ d.canLay0 = true :=
  RV.rec (motive_1 := fun v x _ => RdP h v x) (motive_2 := fun vs xs _ => RdPs h vs xs) rd_none rd_bool rd_int rd_str (fun _ h2 _ _ i => rd_tup h2 i) (fun _ h2 _ _ i => rd_lst h2 i) (fun _ _ e => nomatch e)
    (fun _ _ _ _ e => nomatch e)
    rd_nil (fun _ _ i j => rd_cons i j) r d
theorem readsAll_of (vs : List V) (xs : List Value) (ds : List PyData) (r : RVs N h vs xs) : toDs vs = some ds → (∃ as, ReadsAll h xs ds as) ∧ PyData.canLayAll0 ds = true :=
  r.ind (P := fun vs xs => RdPs h vs xs) rd_nil (fun a j => rd_cons (fun d => reads_of _ _ d a) j) ds
end

theorem reads_res {hsh : HFn} {H : AH} {Sys : Addr → Prop} {h : Heap} (ho : HO hsh H Sys h) {v : V} {x : Value} {d : PyData} (r : RV (NN H Sys) h v x) (e : toD (resV H v) = some d) : (∃ as, Reads h x d as) ∧ d.canLay0 = true := by
  cases v with
  | ref a =>
    have e : toD (match H a with
      | some (.list vs) => .lst vs
      | _ => .ref a) = some d := e
    split at e
    · rename_i vs hv
      cases r
      cases ho a _ hv with
      | list h1 h2 h3 => exact rd_lst h1 (fun ds => readsAll_of vs _ ds h3) d e
    · cases e
  | _ => exact reads_of _ _ _ r e

section
variable {hsh : HFn} {prog : Program} {w : World} {A : Around} {E : Value → Shared → Prop} {s : Shared} {H : AH} {Sys : Addr → Prop} {mg mb : Str → Option Value} {d : Nat}

theorem prim_eq {u v : V} {a b : Value} {Q : Bool → Prop} {K : Value → Shared → Prop} (R : RmF d A) (ho : HO hsh H Sys s.heap) (hW : eqV H u v Q) (ra : RV (NN H Sys) s.heap u a) (rb : RV (NN H Sys) s.heap v b)
    (hK : ∀ r, Q r → K (.bool r) s) : wpAny (model prog w) A (compareOp .Eq a b) K E s := by
  unfold eqV at hW
  split at hW
  · rename_i x y e1 e2
    obtain ⟨⟨as, r1⟩, c1⟩ := reads_res ho ra e1
    obtain ⟨⟨bs, r2⟩, c2⟩ := reads_res ho rb e2
    exact SeqAt.compareEq_reads r1 r2 c1 c2 (by have := R.units; have := hW.1; omega) (hK _ hW.2)
  · exact hW.elim
theorem prim_ne {u v : V} {a b : Value} {Q : Bool → Prop} {K : Value → Shared → Prop} (R : RmF d A) (ho : HO hsh H Sys s.heap) (hW : eqV H u v (fun r => Q (!r))) (ra : RV (NN H Sys) s.heap u a) (rb : RV (NN H Sys) s.heap v b)
    (hK : ∀ r, Q r → K (.bool r) s) : wpAny (model prog w) A (compareOp .NotEq a b) K E s := by
  unfold eqV at hW
  split at hW
  · rename_i x y e1 e2
    obtain ⟨⟨as, r1⟩, c1⟩ := reads_res ho ra e1
    obtain ⟨⟨bs, r2⟩, c2⟩ := reads_res ho rb e2
    exact SeqAt.compareNe_reads r1 r2 c1 c2 (by have := R.units; have := hW.1; omega) (hK _ hW.2)
  · exact hW.elim

theorem prim_in {u v : V} {a b : Value} {Q : Bool → Prop} {K : Value → Shared → Prop} (R : RmF d A) (hH : hsh = wHash w) (ho : HO hsh H Sys s.heap) (hW : inV H u v Q) (ra : RV (NN H Sys) s.heap u a) (rb : RV (NN H Sys) s.heap v b)
    (hK : ∀ r s', Q r → Kp (FZ A Sys) s s' → K (.bool r) s') : wpAny (model prog w) A (compareOp .In a b) K E s ∧ (∀ K' : Value → Shared → Prop, (∀ r s', Q r → Kp (FZ A Sys) s s' → K' (.bool (!r)) s') → wpAny (model prog w) A (compareOp .NotIn a b) K' E s) := by
  cases rb with
  | str y _ _ =>
    replace hW := strP_inv hW; obtain ⟨x, rfl, hW⟩ := hW
    cases ra
    exact ⟨PyProof.Rows.in_str (hK _ s hW (Kp.refl s)), fun K' h' => PyProof.Rows.notIn_str (h' _ s hW (Kp.refl s))⟩
  | ref b =>
    exact False.elim (noDict (u := .ref b) (P := fun _ kvs => keyP u fun ks => Q (dlook ks kvs).isSome) ho hW)
  | _ => exact False.elim hW

theorem prim_cmp {op : Cop} {u v : V} {a b : Value} {Q : Bool → Prop} {K : Value → Shared → Prop} (R : RmF d A) (hH : hsh = wHash w) (ho : HO hsh H Sys s.heap) (hW : cmpV H op u v Q) (ra : RV (NN H Sys) s.heap u a) (rb : RV (NN H Sys) s.heap v b)
    (hK : ∀ r s', Q r → Kp (FZ A Sys) s s' → K (.bool r) s') : wpAny (model prog w) A (compareOp (copOf op) a b) K E s := by
  have hk0 : ∀ r, Q r → K (.bool r) s := fun r q => hK r s q (Kp.refl s)
  cases op with
  | eq => exact prim_eq R ho hW ra rb hk0
  | ne => exact prim_ne R ho hW ra rb hk0
  | lt =>
    replace hW := intP_inv hW; obtain ⟨i, rfl, hW⟩ := hW
    replace hW := intP_inv hW; obtain ⟨j, rfl, hW⟩ := hW
    cases ra; cases rb; exact PyProof.Rows.lt_int (hk0 _ hW)
  | le =>
    replace hW := intP_inv hW; obtain ⟨i, rfl, hW⟩ := hW
    replace hW := intP_inv hW; obtain ⟨j, rfl, hW⟩ := hW
    cases ra; cases rb; exact PyProof.Rows.le_int (hk0 _ hW)
  | gt =>
    replace hW := intP_inv hW; obtain ⟨i, rfl, hW⟩ := hW
    replace hW := intP_inv hW; obtain ⟨j, rfl, hW⟩ := hW
    cases ra; cases rb; exact PyProof.Rows.gt_int (hk0 _ hW)
  | ge =>
    replace hW := intP_inv hW; obtain ⟨i, rfl, hW⟩ := hW
    replace hW := intP_inv hW; obtain ⟨j, rfl, hW⟩ := hW
    cases ra; cases rb; exact PyProof.Rows.ge_int (hk0 _ hW)
  | is =>
    obtain ⟨rfl, hW⟩ := noneP_inv hW
    cases rb
    refine is_none ?_
    have := hk0 _ hW
    cases ra <;> exact this
  | isnot =>
    obtain ⟨rfl, hW⟩ := noneP_inv hW
    cases rb
    refine isNot_none ?_
    have := hk0 _ hW
    cases ra <;> exact this
  | isin => exact (prim_in R hH ho hW ra rb hK).1
  | notin => exact (prim_in (Q := fun r => Q (!r)) (K := fun _ _ => True) R hH ho hW ra rb fun _ _ _ _ => trivial).2 K fun r s' q k => by exact hK _ s' q k
end

section
variable {G : PG} {d : Nat} {c : Sc} {A : Around} {env : Env} {lay : Nat → Option Place} {Sys : Addr → Prop} {base : Heap} {st : St} {s : Shared}

/-- a chain of comparisons -/
noncomputable abbrev SCh (G : PG) (d : Nat) (c : Sc) (ch : Ch) (ops : List CmpOp) (rs : List Expr) : Prop :=
  ∀ {A : Around} {env : Env} {lay : Nat → Option Place} {Sys : Addr → Prop} {base : Heap} {st : St} {s : Shared}, Fx G d c A env lay Sys base st s →
    ∀ (u : V) (a : Value) (pos : Pos), RV (NN st.H Sys) s.heap u a → ∀ (Q : Bool → Prop) (X : String → Prop), WCh (G.cx d) ch st u Q X →
      (∀ (K E : Value → Shared → Prop), (∀ r s', Q r → Kp (FZ A Sys) s s' → K (.bool r) s') → (∀ e s', Rz G.mg A Sys s X e s' → E e s') → wpAny (model G.prog G.w) A (compareChain pos a ops (evalEach rs env)) K E s) ∧
      (∀ (K : Bool → Shared → Prop) (E : Value → Shared → Prop), (∀ r s', Q r → Kp (FZ A Sys) s s' → K r s') → (∀ e s', Rz G.mg A Sys s X e s' → E e s') → wpAny (model G.prog G.w) A (testChain pos a ops (evalEach rs env)) K E s)

theorem sch_one {op : Cop} {e : E} {x : Expr} (he : SE G d c e x) : SCh G d c (.one op e) [copOf op] [x] := by
  intro A env lay Sys base st s F u a pos ru Q X hW
  simp only [wch_0, wch_1] at hW
  have key : ∀ (K E : Value → Shared → Prop), (∀ r s', Q r → Kp (FZ A Sys) s s' → K (.bool r) s') → (∀ e s', Rz G.mg A Sys s X e s' → E e s') →
      wpAny (model G.prog G.w) A (eval x env) (fun b s₁ => wpAny (model G.prog G.w) A (compareOp (copOf op) a b) K E s₁) E s := by
    intro K E hK hX
    refine (he F).weak _ X _ E hW (fun v b s₁ h₁ r₁ k₁ _ => ?_) hX
    exact prim_cmp (F.keeps k₁).rm rfl (F.keeps k₁).sim.objs h₁ (ru.kz k₁.hw) r₁ fun r s' q k => hK r s' q (k₁.trans k)
  refine ⟨fun K E hK hX => PyProof.Rows.chain_last (key K E hK hX), fun K E hK hX => ?_⟩
  exact PyProof.Rows.test_last (key (fun v s' => wpAny (model G.prog G.w) A (truthy v) K E s') E (fun r s' q k => wpAny_truthy_bool (hK r s' q k)) hX)
theorem sch_more {op : Cop} {e : E} {x x2 : Expr} {ch : Ch} {o2 : CmpOp} {ops : List CmpOp} {xs : List Expr} (he : SE G d c e x) (hc : SCh G d c ch (o2 :: ops) (x2 :: xs)) : SCh G d c (.more op e ch) (copOf op :: o2 :: ops) (x :: x2 :: xs) := by
  intro A env lay Sys base st s F u a pos ru Q X hW
  simp only [wch_0, wch_1] at hW
  constructor
  · intro K E hK hX
    refine PyProof.Rows.chain_link ((he F).weak _ X _ E hW (fun v b s₁ h₁ r₁ k₁ _ => ?_) hX)
    refine prim_cmp (F.keeps k₁).rm rfl (F.keeps k₁).sim.objs h₁ (ru.kz k₁.hw) r₁ fun r s₂ q k₂ => wpAny_truthy_bool ?_
    have k₁ := k₁.trans k₂
    cases r
    · simp only [Bool.false_eq_true, if_false] at q ⊢; exact hK false s₂ q k₁
    · simp only [if_true] at q ⊢
      exact (hc (F.keeps k₁) v b pos (r₁.kz k₂.hw) Q X q).1 K E (fun r s' q k => hK r s' q (k₁.trans k)) fun e s' q => hX e s' (Rz.trans k₁ q)
  · intro K E hK hX
    refine PyProof.Rows.test_link ((he F).weak _ X _ E hW (fun v b s₁ h₁ r₁ k₁ _ => ?_) hX)
    refine prim_cmp (F.keeps k₁).rm rfl (F.keeps k₁).sim.objs h₁ (ru.kz k₁.hw) r₁ fun r s₂ q k₂ => wpAny_truthy_bool ?_
    have k₁ := k₁.trans k₂
    cases r
    · simp only [Bool.false_eq_true, if_false] at q ⊢; exact hK false s₂ q k₁
    · simp only [if_true] at q ⊢
      exact (hc (F.keeps k₁) v b pos (r₁.kz k₂.hw) Q X q).2 K E (fun r s' q k => hK r s' q (k₁.trans k)) fun e s' q => hX e s' (Rz.trans k₁ q)
end

end Mine
end

section
set_option autoImplicit false
namespace Mine
open PySem

section
variable {hsh : HFn} {prog : Program} {w : World} {A : Around} {E : Value → Shared → Prop} {s : Shared} {H : AH} {Sys : Addr → Prop} {mg mb : Str → Option Value} {d : Nat}

theorem idx_eq (n : Nat) (i : Int) : idx n i = seqIndex? i n := by
  unfold idx seqIndex?
  by_cases h : 0 ≤ i
  · rw [if_pos h]
    have h' : ¬ i < 0 := by omega
    simp only [h', if_false]
    by_cases h2 : i < n
    · simp [h, h2]
    · simp [h2]
  · rw [if_neg h]
    have h' : i < 0 := by omega
    simp only [h', if_true]
    by_cases h2 : 0 ≤ i + n
    · have h3 : i + n < n := by omega
      simp [h2, h3]
    · simp [h2]
theorem idx_some {n k : Nat} {i : Int} (h : idx n i = some k) : k < n ∧ -(n : Int) ≤ i ∧ i < n ∧ (0 ≤ i → k = i.toNat) ∧ (i < 0 → k = (i + n).toNat) := by
  unfold idx at h
  split at h
  · split at h
    · cases h; omega
    · cases h
  · split at h
    · cases h; omega
    · cases h

theorem get_list {l : Addr} {xs : Array Value} {n k : Nat} {i : Int} {u : Tok} {x : Value} {K : Value → Shared → Prop} (hl : IsL s.heap l xs n) (hz : xs.size ≤ sizeLine) (hi : idx xs.size i = some k) (hx : xs[k]? = some x)
    (h : K x s) : wpAny (model prog w) A (getItem (.ref l) (.int i u)) K E s := by
  obtain ⟨h1, h2, h3, h4, h5⟩ := idx_some hi
  have hs : sizeLine = 16777216 := rfl
  by_cases h0 : 0 ≤ i
  · exact wpAny_getItem_list hl.isList h0 (by omega) (by rw [← h4 h0]; exact hx) h
  · exact wpAny_getItem_list_neg hl.isList (by omega) (by omega) (by omega) (by rw [← h5 (by omega)]; exact hx) h

theorem prim_sub {value slice : Expr} {u v : V} {a b : Value} {Q : V → Prop} {K : Value → Shared → Prop} (R : RmF d A) (hH : hsh = wHash w) (ho : HO hsh H Sys s.heap) (hp : plainX slice = true) (hW : subV H u v Q) (ra : RV (NN H Sys) s.heap u a) (rb : RV (NN H Sys) s.heap v b)
    (hK : ∀ r val s', Q r → RV (NN H Sys) s'.heap r val → Kp (FZ A Sys) s s' → K val s') : wpAny (model prog w) A (PyProof.Rows.subscriptTail value slice a b) K E s := by
  have hs : ∀ o i, subscripted slice false o i = operate [o, i] (getItem o i) := fun o i => by
    cases slice <;> first | rfl | exact ff hp
  unfold subV at hW
  split at hW
  · cases ra
    split at hW
    · rename_i kvs hd
      cases ho _ _ hd
    · rename_i vs hl
      cases ho _ _ hl with
      | list h1 h2 h3 =>
        split at hW
        · cases rb
          split at hW
          · rename_i n hn
            split at hW
            · rename_i r hr
              obtain ⟨x, e, rx⟩ := h3.get n hr
              have hlen := h3.size
              rw [hlen] at hn
              exact PyProof.Rows.tail_any h1.isList.typeIs slot_list_getitem.lookup (get_list h1 h2 hn (by simpa using e) (hK _ _ _ hW rx (Kp.refl s))) (hs _ _)
            · exact hW.elim
          · exact hW.elim
        · exact hW.elim
    · exact hW.elim
  · cases ra with
    | str _ t hx =>
      rename_i x _
      cases rb
      split at hW
      · rename_i n hn
        split at hW
        · rename_i cc hc
          have hs' : sizeLine = 16777216 := rfl
          obtain ⟨h1, h2, h3, _⟩ := idx_some hn
          have := hx.1
          refine PyProof.Rows.tail_any (typeIs_str s x t) F.slot_str_getitem.lookup (PyProof.Rows.getItem_str (c := cc) ?_ ?_ (hK _ _ _ hW (.str _ _ (hx.one (List.mem_of_getElem? hc))) (Kp.tok s _))) (hs _ _)
          · simp only [Bool.or_eq_false_iff, decide_eq_false_iff_not]; omega
          · rw [← idx_eq, hn]; simpa using hc
        · exact hW.elim
      · exact hW.elim
  · cases ra with
    | lst h0 h1 h2 h3 =>
      cases rb
      split at hW
      · rename_i n hn
        split at hW
        · rename_i r hr
          obtain ⟨x, e, rx⟩ := h3.get n hr
          have hlen := h3.size
          rw [hlen] at hn
          exact PyProof.Rows.tail_any h1.isList.typeIs slot_list_getitem.lookup (get_list h1 h2 hn (by simpa using e) (hK _ _ _ hW rx (Kp.refl s))) (hs _ _)
        · exact hW.elim
      · exact hW.elim
  · cases ra with
    | tup h0 h1 h2 h3 =>
      cases rb
      split at hW
      · rename_i n hn
        split at hW
        · rename_i r hr
          obtain ⟨x, e, rx⟩ := h3.get n hr
          have hlen := h3.size
          rw [hlen] at hn
          have hs' : sizeLine = 16777216 := rfl
          obtain ⟨a1, a2, a3, _⟩ := idx_some hn
          exact PyProof.Rows.tail_any (IsT.isTup h1).typeIs F.slot_tuple_getitem.lookup (PyProof.Rows.getItem_tuple (IsT.isTup h1) (by omega) (by omega) (by rw [← idx_eq]; exact hn) (by simpa using e) (hK _ _ _ hW rx (Kp.refl s))) (hs _ _)
        · exact hW.elim
      · exact hW.elim
  · exact hW.elim

theorem prim_isi {t : Ty} {u : V} {a : Value} {b : Bool} {K : Value → Shared → Prop} (ho : HO hsh H Sys s.heap) (hW : isT H t u = some b) (ra : RV (NN H Sys) s.heap u a) (hK : ∀ s', Kp (FZ A Sys) s s' → K (.bool b) s') :
    wpAny (model prog w) A (call (.builtin "isinstance") [a, .type (tyName t)]) K E s := by
  have k0 := hK s (Kp.refl s)
  have k1 := hK { s with toks := s.toks + 1 } (Kp.tok s _)
  cases ra with
  | none => cases t <;> simp [ist_none, ist_bool, ist_int, ist_str, ist_tup, ist_lst, ist_ref, ist_inst, ist_iref, ist_exc, ist_dct, isv_int_none, isv_int_bool, isv_int_int, isv_int_str, isv_int_tup, isv_int_lst, isv_int_ref, isv_int_inst, isv_int_iref, isv_int_exc, isv_int_dct, isv_bool_none, isv_bool_bool, isv_bool_int, isv_bool_str, isv_bool_tup, isv_bool_lst, isv_bool_ref, isv_bool_inst, isv_bool_iref, isv_bool_exc, isv_bool_dct, isv_str_none, isv_str_bool, isv_str_int, isv_str_str, isv_str_tup, isv_str_lst, isv_str_ref, isv_str_inst, isv_str_iref, isv_str_exc, isv_str_dct, isv_tuple_none, isv_tuple_bool, isv_tuple_int, isv_tuple_str, isv_tuple_tup, isv_tuple_lst, isv_tuple_ref, isv_tuple_inst, isv_tuple_iref, isv_tuple_exc, isv_tuple_dct, isv_list_none, isv_list_bool, isv_list_int, isv_list_str, isv_list_tup, isv_list_lst, isv_list_ref, isv_list_inst, isv_list_iref, isv_list_exc, isv_list_dct, isv_own_none, isv_ve_none, isv_own_bool, isv_ve_bool, isv_own_int, isv_ve_int, isv_own_str, isv_ve_str, isv_own_tup, isv_ve_tup, isv_own_lst, isv_ve_lst, isv_own_ref, isv_ve_ref, isv_own_inst, isv_ve_inst, isv_own_iref, isv_ve_iref, isv_own_exc, isv_ve_exc, isv_own_dct, isv_ve_dct] at hW <;> subst hW <;> first | exact IsiPair.NoneType_int k1 | exact IsiPair.NoneType_bool k1 | exact IsiPair.NoneType_str k1 | exact IsiPair.NoneType_tuple k1 | exact IsiPair.NoneType_list k1
  | bool x => cases t <;> simp [ist_none, ist_bool, ist_int, ist_str, ist_tup, ist_lst, ist_ref, ist_inst, ist_iref, ist_exc, ist_dct, isv_int_none, isv_int_bool, isv_int_int, isv_int_str, isv_int_tup, isv_int_lst, isv_int_ref, isv_int_inst, isv_int_iref, isv_int_exc, isv_int_dct, isv_bool_none, isv_bool_bool, isv_bool_int, isv_bool_str, isv_bool_tup, isv_bool_lst, isv_bool_ref, isv_bool_inst, isv_bool_iref, isv_bool_exc, isv_bool_dct, isv_str_none, isv_str_bool, isv_str_int, isv_str_str, isv_str_tup, isv_str_lst, isv_str_ref, isv_str_inst, isv_str_iref, isv_str_exc, isv_str_dct, isv_tuple_none, isv_tuple_bool, isv_tuple_int, isv_tuple_str, isv_tuple_tup, isv_tuple_lst, isv_tuple_ref, isv_tuple_inst, isv_tuple_iref, isv_tuple_exc, isv_tuple_dct, isv_list_none, isv_list_bool, isv_list_int, isv_list_str, isv_list_tup, isv_list_lst, isv_list_ref, isv_list_inst, isv_list_iref, isv_list_exc, isv_list_dct, isv_own_none, isv_ve_none, isv_own_bool, isv_ve_bool, isv_own_int, isv_ve_int, isv_own_str, isv_ve_str, isv_own_tup, isv_ve_tup, isv_own_lst, isv_ve_lst, isv_own_ref, isv_ve_ref, isv_own_inst, isv_ve_inst, isv_own_iref, isv_ve_iref, isv_own_exc, isv_ve_exc, isv_own_dct, isv_ve_dct] at hW <;> subst hW <;> first | exact IsiPair.bool_int k0 | exact IsiPair.bool_bool k0 | exact IsiPair.bool_str k1 | exact IsiPair.bool_tuple k1 | exact IsiPair.bool_list k1
  | int i tt => cases t <;> simp [ist_none, ist_bool, ist_int, ist_str, ist_tup, ist_lst, ist_ref, ist_inst, ist_iref, ist_exc, ist_dct, isv_int_none, isv_int_bool, isv_int_int, isv_int_str, isv_int_tup, isv_int_lst, isv_int_ref, isv_int_inst, isv_int_iref, isv_int_exc, isv_int_dct, isv_bool_none, isv_bool_bool, isv_bool_int, isv_bool_str, isv_bool_tup, isv_bool_lst, isv_bool_ref, isv_bool_inst, isv_bool_iref, isv_bool_exc, isv_bool_dct, isv_str_none, isv_str_bool, isv_str_int, isv_str_str, isv_str_tup, isv_str_lst, isv_str_ref, isv_str_inst, isv_str_iref, isv_str_exc, isv_str_dct, isv_tuple_none, isv_tuple_bool, isv_tuple_int, isv_tuple_str, isv_tuple_tup, isv_tuple_lst, isv_tuple_ref, isv_tuple_inst, isv_tuple_iref, isv_tuple_exc, isv_tuple_dct, isv_list_none, isv_list_bool, isv_list_int, isv_list_str, isv_list_tup, isv_list_lst, isv_list_ref, isv_list_inst, isv_list_iref, isv_list_exc, isv_list_dct, isv_own_none, isv_ve_none, isv_own_bool, isv_ve_bool, isv_own_int, isv_ve_int, isv_own_str, isv_ve_str, isv_own_tup, isv_ve_tup, isv_own_lst, isv_ve_lst, isv_own_ref, isv_ve_ref, isv_own_inst, isv_ve_inst, isv_own_iref, isv_ve_iref, isv_own_exc, isv_ve_exc, isv_own_dct, isv_ve_dct] at hW <;> subst hW <;> first | exact IsiPair.int_int k0 | exact IsiPair.int_bool k1 | exact IsiPair.int_str k1 | exact IsiPair.int_tuple k1 | exact IsiPair.int_list k1
  | str x tt hx => cases t <;> simp [ist_none, ist_bool, ist_int, ist_str, ist_tup, ist_lst, ist_ref, ist_inst, ist_iref, ist_exc, ist_dct, isv_int_none, isv_int_bool, isv_int_int, isv_int_str, isv_int_tup, isv_int_lst, isv_int_ref, isv_int_inst, isv_int_iref, isv_int_exc, isv_int_dct, isv_bool_none, isv_bool_bool, isv_bool_int, isv_bool_str, isv_bool_tup, isv_bool_lst, isv_bool_ref, isv_bool_inst, isv_bool_iref, isv_bool_exc, isv_bool_dct, isv_str_none, isv_str_bool, isv_str_int, isv_str_str, isv_str_tup, isv_str_lst, isv_str_ref, isv_str_inst, isv_str_iref, isv_str_exc, isv_str_dct, isv_tuple_none, isv_tuple_bool, isv_tuple_int, isv_tuple_str, isv_tuple_tup, isv_tuple_lst, isv_tuple_ref, isv_tuple_inst, isv_tuple_iref, isv_tuple_exc, isv_tuple_dct, isv_list_none, isv_list_bool, isv_list_int, isv_list_str, isv_list_tup, isv_list_lst, isv_list_ref, isv_list_inst, isv_list_iref, isv_list_exc, isv_list_dct, isv_own_none, isv_ve_none, isv_own_bool, isv_ve_bool, isv_own_int, isv_ve_int, isv_own_str, isv_ve_str, isv_own_tup, isv_ve_tup, isv_own_lst, isv_ve_lst, isv_own_ref, isv_ve_ref, isv_own_inst, isv_ve_inst, isv_own_iref, isv_ve_iref, isv_own_exc, isv_ve_exc, isv_own_dct, isv_ve_dct] at hW <;> subst hW <;> first | exact IsiPair.str_int k1 | exact IsiPair.str_bool k1 | exact IsiPair.str_str k0 | exact IsiPair.str_tuple k1 | exact IsiPair.str_list k1
  | exc => cases t <;> cases hW
  | tup h0 h1 h2 h3 =>
    have hl := IsT.isTuple h1
    cases t <;> simp [ist_none, ist_bool, ist_int, ist_str, ist_tup, ist_lst, ist_ref, ist_inst, ist_iref, ist_exc, ist_dct, isv_int_none, isv_int_bool, isv_int_int, isv_int_str, isv_int_tup, isv_int_lst, isv_int_ref, isv_int_inst, isv_int_iref, isv_int_exc, isv_int_dct, isv_bool_none, isv_bool_bool, isv_bool_int, isv_bool_str, isv_bool_tup, isv_bool_lst, isv_bool_ref, isv_bool_inst, isv_bool_iref, isv_bool_exc, isv_bool_dct, isv_str_none, isv_str_bool, isv_str_int, isv_str_str, isv_str_tup, isv_str_lst, isv_str_ref, isv_str_inst, isv_str_iref, isv_str_exc, isv_str_dct, isv_tuple_none, isv_tuple_bool, isv_tuple_int, isv_tuple_str, isv_tuple_tup, isv_tuple_lst, isv_tuple_ref, isv_tuple_inst, isv_tuple_iref, isv_tuple_exc, isv_tuple_dct, isv_list_none, isv_list_bool, isv_list_int, isv_list_str, isv_list_tup, isv_list_lst, isv_list_ref, isv_list_inst, isv_list_iref, isv_list_exc, isv_list_dct, isv_own_none, isv_ve_none, isv_own_bool, isv_ve_bool, isv_own_int, isv_ve_int, isv_own_str, isv_ve_str, isv_own_tup, isv_ve_tup, isv_own_lst, isv_ve_lst, isv_own_ref, isv_ve_ref, isv_own_inst, isv_ve_inst, isv_own_iref, isv_ve_iref, isv_own_exc, isv_ve_exc, isv_own_dct, isv_ve_dct] at hW <;> subst hW <;> first
      | exact IsiPair.isTuple_int hl (fun _ _ e => e) k1 | exact IsiPair.isTuple_bool hl (fun _ _ e => e) k1 | exact IsiPair.isTuple_str hl (fun _ _ e => e) k1 | exact IsiPair.isTuple_tuple hl (fun _ _ e => e) k0 | exact IsiPair.isTuple_list hl (fun _ _ e => e) k1
  | lst h0 h1 h2 h3 =>
    have hl := IsL.isList h1
    cases t <;> simp [ist_none, ist_bool, ist_int, ist_str, ist_tup, ist_lst, ist_ref, ist_inst, ist_iref, ist_exc, ist_dct, isv_int_none, isv_int_bool, isv_int_int, isv_int_str, isv_int_tup, isv_int_lst, isv_int_ref, isv_int_inst, isv_int_iref, isv_int_exc, isv_int_dct, isv_bool_none, isv_bool_bool, isv_bool_int, isv_bool_str, isv_bool_tup, isv_bool_lst, isv_bool_ref, isv_bool_inst, isv_bool_iref, isv_bool_exc, isv_bool_dct, isv_str_none, isv_str_bool, isv_str_int, isv_str_str, isv_str_tup, isv_str_lst, isv_str_ref, isv_str_inst, isv_str_iref, isv_str_exc, isv_str_dct, isv_tuple_none, isv_tuple_bool, isv_tuple_int, isv_tuple_str, isv_tuple_tup, isv_tuple_lst, isv_tuple_ref, isv_tuple_inst, isv_tuple_iref, isv_tuple_exc, isv_tuple_dct, isv_list_none, isv_list_bool, isv_list_int, isv_list_str, isv_list_tup, isv_list_lst, isv_list_ref, isv_list_inst, isv_list_iref, isv_list_exc, isv_list_dct, isv_own_none, isv_ve_none, isv_own_bool, isv_ve_bool, isv_own_int, isv_ve_int, isv_own_str, isv_ve_str, isv_own_tup, isv_ve_tup, isv_own_lst, isv_ve_lst, isv_own_ref, isv_ve_ref, isv_own_inst, isv_ve_inst, isv_own_iref, isv_ve_iref, isv_own_exc, isv_ve_exc, isv_own_dct, isv_ve_dct] at hW <;> subst hW <;> first
      | exact IsiPair.isList_int hl (fun _ _ e => e) k1 | exact IsiPair.isList_bool hl (fun _ _ e => e) k1 | exact IsiPair.isList_str hl (fun _ _ e => e) k1 | exact IsiPair.isList_tuple hl (fun _ _ e => e) k1 | exact IsiPair.isList_list hl (fun _ _ e => e) k0
  | ref ad =>
    simp only [ist_none, ist_bool, ist_int, ist_str, ist_tup, ist_lst, ist_ref, ist_inst, ist_iref, ist_exc, ist_dct] at hW
    split at hW
    · rename_i vs hv
      cases ho _ _ hv with
      | list h1 h2 h3 =>
        have hl := IsL.isList h1
        cases t <;> simp [isv_int_none, isv_int_bool, isv_int_int, isv_int_str, isv_int_tup, isv_int_lst, isv_int_ref, isv_int_inst, isv_int_iref, isv_int_exc, isv_int_dct, isv_bool_none, isv_bool_bool, isv_bool_int, isv_bool_str, isv_bool_tup, isv_bool_lst, isv_bool_ref, isv_bool_inst, isv_bool_iref, isv_bool_exc, isv_bool_dct, isv_str_none, isv_str_bool, isv_str_int, isv_str_str, isv_str_tup, isv_str_lst, isv_str_ref, isv_str_inst, isv_str_iref, isv_str_exc, isv_str_dct, isv_tuple_none, isv_tuple_bool, isv_tuple_int, isv_tuple_str, isv_tuple_tup, isv_tuple_lst, isv_tuple_ref, isv_tuple_inst, isv_tuple_iref, isv_tuple_exc, isv_tuple_dct, isv_list_none, isv_list_bool, isv_list_int, isv_list_str, isv_list_tup, isv_list_lst, isv_list_ref, isv_list_inst, isv_list_iref, isv_list_exc, isv_list_dct, isv_own_none, isv_ve_none, isv_own_bool, isv_ve_bool, isv_own_int, isv_ve_int, isv_own_str, isv_ve_str, isv_own_tup, isv_ve_tup, isv_own_lst, isv_ve_lst, isv_own_ref, isv_ve_ref, isv_own_inst, isv_ve_inst, isv_own_iref, isv_ve_iref, isv_own_exc, isv_ve_exc, isv_own_dct, isv_ve_dct] at hW <;> subst hW <;> first
          | exact IsiPair.isList_int hl (fun _ _ e => e) k1 | exact IsiPair.isList_bool hl (fun _ _ e => e) k1 | exact IsiPair.isList_str hl (fun _ _ e => e) k1 | exact IsiPair.isList_tuple hl (fun _ _ e => e) k1 | exact IsiPair.isList_list hl (fun _ _ e => e) k0
    · cases hW

theorem prim_len {u : V} {a : Value} {n : Nat} {K : Value → Shared → Prop} (ho : HO hsh H Sys s.heap) (hW : sizeV H u = some n) (ra : RV (NN H Sys) s.heap u a) (hK : ∀ t s', Kp (FZ A Sys) s s' → K (.int n t) s') :
    wpAny (model prog w) A (call (.builtin "len") [a]) K E s := by
  have hs' : sizeLine = 16777216 := rfl
  cases ra with
  | str x t hx =>
    simp [zv_none, zv_bool, zv_int, zv_str, zv_tup, zv_lst, zv_ref, zv_inst, zv_iref, zv_exc, zv_dct] at hW; subst hW
    exact PyProof.Rows.len_str (by have := hx.1; omega) (hK _ _ (Kp.tok s _))
  | tup h0 h1 h2 h3 =>
    simp [zv_none, zv_bool, zv_int, zv_str, zv_tup, zv_lst, zv_ref, zv_inst, zv_iref, zv_exc, zv_dct] at hW; subst hW
    have := h3.size; rw [this] at hK
    exact PyProof.Rows.len_tuple (IsT.isTup h1) (by omega) (hK _ _ (Kp.tok s _))
  | lst h0 h1 h2 h3 =>
    simp [zv_none, zv_bool, zv_int, zv_str, zv_tup, zv_lst, zv_ref, zv_inst, zv_iref, zv_exc, zv_dct] at hW; subst hW
    have := h3.size; rw [this] at hK
    exact Calls.call_len_list (IsL.isList h1) (by omega) (hK _ _ (Kp.tok s _))
  | ref ad =>
    simp only [zv_none, zv_bool, zv_int, zv_str, zv_tup, zv_lst, zv_ref, zv_inst, zv_iref, zv_exc, zv_dct] at hW
    split at hW
    · rename_i vs hv
      cases ho _ _ hv with
      | list h1 h2 h3 =>
        cases hW
        have := h3.size; rw [this] at hK
        exact Calls.call_len_list (IsL.isList h1) (by omega) (hK _ _ (Kp.tok s _))
    · cases hW
  | _ => simp [zv_none, zv_bool, zv_int, zv_str, zv_tup, zv_lst, zv_ref, zv_inst, zv_iref, zv_exc, zv_dct] at hW
end

end Mine
end

section
set_option autoImplicit false
namespace Mine
open PySem

theorem starEach_cons {x : Expr} {r : List Expr} {env : Env} (h : noStar x = true) : starEach (x :: r) env = (false, eval x env) :: starEach r env := by
  cases x <;> first | rfl | exact ff h
theorem star_plain (pos : Pos) (env : Env) : ∀ (xs : List Expr), xs.all noStar = true → (backTo pos (starEach xs env)).any (·.1) = false
  | [], _ => rfl
  | x :: r, h => by
    simp only [List.all_cons, Bool.and_eq_true] at h
    rw [starEach_cons h.1]
    have := star_plain pos env r h.2
    simpa [backTo] using this

noncomputable abbrev SEs (G : PG) (d : Nat) (c : Sc) (es : Es) (xs : List Expr) : Prop :=
  xs.all noStar = true ∧ ∀ {A : Around} {env : Env} {lay : Nat → Option Place} {Sys : Addr → Prop} {base : Heap} {st : St} {s : Shared}, Fx G d c A env lay Sys base st s →
    ∀ (pos : Pos) (Q : List V → Prop) (X : String → Prop) (K : List Value → Shared → Prop) (E : Value → Shared → Prop), WEs (G.cx d) es st Q X →
      (∀ vs vals s', Q vs → RVs (NN st.H Sys) s'.heap vs vals → Kp (FZ A Sys) s s' → K vals s') → (∀ e s', Rz G.mg A Sys s X e s' → E e s') →
      wpAny (model G.prog G.w) A (spliced (backTo pos (starEach xs env))) K E s

theorem ses_nil {G : PG} {d : Nat} {c : Sc} : SEs G d c .nil [] :=
  ⟨rfl, fun {A env lay Sys base st s} _ pos Q X K E hW hK _ => wpAny_items_nil (hK [] [] s (by simpa [wes_0, wes_1] using hW) .nil (Kp.refl s))⟩
theorem ses_cons {G : PG} {d : Nat} {c : Sc} {e : E} {es : Es} {x : Expr} {xs : List Expr} (hn : noStar x = true) (he : SE G d c e x) (hes : SEs G d c es xs) : SEs G d c (.cons e es) (x :: xs) := by
  refine ⟨by simp [hn, hes.1], fun {A env lay Sys base st s} F pos Q X K E hW hK hX => ?_⟩
  simp only [wes_0, wes_1] at hW
  refine wpAny_items_cons ((he F).weak _ X _ E hW (fun v a s₁ h₁ r₁ k₁ _ => ?_) hX) (starEach_cons hn)
  exact hes.2 (F.keeps k₁) pos _ X _ E h₁ (fun vs vals s' q r k => hK (v :: vs) (a :: vals) s' q (.cons (r₁.kz k.hw) r) (k₁.trans k)) fun e s' q => hX e s' (Rz.trans k₁ q)

section
variable {G : PG} {d : Nat} {c : Sc} {A : Around} {env : Env} {lay : Nat → Option Place} {Sys : Addr → Prop} {base : Heap} {st : St} {s : Shared}

theorem se_list {es : Es} {xs : List Expr} {pos : Pos} (F : Fx G d c A env lay Sys base st s) (h : SEs G d c es xs) : Snd G.prog G.w G.mg A (NN st.H Sys) Sys s true (eval (.List xs pos) env) (WE (G.cx d) (.list es) st) := by
  intro Q X K E hW hK hX
  simp only [we_0, we_1, we_2, we_3, we_4, we_5, we_6, we_7, we_8, we_9, we_10, we_11, we_12, we_13, we_14, we_15, we_16, we_17, we_18, we_19, we_20, we_21, we_22, we_23, we_24, we_25, we_26, we_27, we_28, we_29, we_30, we_31, we_32, we_33, we_34, we_35, we_36, we_37] at hW
  refine wpAny_List (h.2 F pos _ X _ E hW (fun vs vals s₁ h₁ r₁ k₁ => ?_) hX)
  have F₁ := F.keeps k₁
  have hl := r₁.length
  refine ⟨by rw [← hl]; exact h₁.1, hK _ _ _ h₁.2 (new_lst F₁.sim.objs F₁.sim.live (by simpa using r₁) (by simpa [← hl] using h₁.1)) (k₁.trans (Kp.ofH (HK.push _ _))) fun _ => ?_⟩
  exact (Frsh.mk (s := s₁) (s' := { s₁ with heap := s₁.heap.push { cls := .type "list", data := .seq vals.toArray } }) (fresh_size _) (by simpa using r₁) (HK.push _ _) (IsL.new _ _) (by simpa [← hl] using h₁.1)).before k₁
theorem se_tup {es : Es} {xs : List Expr} {k : Nat} {pos : Pos} (F : Fx G d c A env lay Sys base st s) (h : SEs G d c es xs) : Snd G.prog G.w G.mg A (NN st.H Sys) Sys s false (eval (.Tuple xs k pos) env) (WE (G.cx d) (.tup es) st) := by
  intro Q X K E hW hK hX
  simp only [we_0, we_1, we_2, we_3, we_4, we_5, we_6, we_7, we_8, we_9, we_10, we_11, we_12, we_13, we_14, we_15, we_16, we_17, we_18, we_19, we_20, we_21, we_22, we_23, we_24, we_25, we_26, we_27, we_28, we_29, we_30, we_31, we_32, we_33, we_34, we_35, we_36, we_37] at hW
  refine wpAny_Tuple (h.2 F pos _ X _ E hW (fun vs vals s₁ h₁ r₁ k₁ => ?_) hX)
  have F₁ := F.keeps k₁
  have hl := r₁.length
  exact ⟨by rw [← hl]; exact h₁.1, hK _ _ _ h₁.2 (new_tup F₁.sim.objs F₁.sim.live (by simpa using r₁) (by simpa [← hl] using h₁.1)) (k₁.trans (Kp.ofH (HK.push _ _))) nofun⟩

theorem se_sub {a i : E} {y z : Expr} {pos : Pos} (F : Fx G d c A env lay Sys base st s) (ha : SE G d c a y) (hi : SE G d c i z) (hp : plainX z = true) :
    Snd G.prog G.w G.mg A (NN st.H Sys) Sys s false (eval (.Subscript y z pos) env) (WE (G.cx d) (.sub a i) st) := by
  intro Q X K E hW hK hX
  simp only [we_0, we_1, we_2, we_3, we_4, we_5, we_6, we_7, we_8, we_9, we_10, we_11, we_12, we_13, we_14, we_15, we_16, we_17, we_18, we_19, we_20, we_21, we_22, we_23, we_24, we_25, we_26, we_27, we_28, we_29, we_30, we_31, we_32, we_33, we_34, we_35, we_36, we_37] at hW
  refine PyProof.Rows.Subscript_ ((ha F).weak _ X _ E hW (fun u va s₁ h₁ r₁ k₁ _ => ?_) hX)
  refine (hi (F.keeps k₁)).weak _ X _ E h₁ (fun v vb s₂ h₂ r₂ k₂ _ => ?_) fun e s' q => hX e s' (Rz.trans k₁ q)
  exact prim_sub ((F.keeps k₁).keeps k₂).rm rfl ((F.keeps k₁).keeps k₂).sim.objs hp h₂ (r₁.kz k₂.hw) r₂ fun r val s' q rv k => hK r val s' q rv ((k₁.trans k₂).trans k) nofun

theorem ev_call_b {n : String} {y : Str} {p pos : Pos} {z : Expr} {xs : List Expr} {es : Es} {Q : List V → Prop} {X : String → Prop} {K E : Value → Shared → Prop} (F : Fx G d c A env lay Sys base st s) (hg : isGlob c y n = true) (hn : n ∈ bnames)
    (hv : bval n = .builtin n) (h : SEs G d c es (z :: xs)) (hW : WEs (G.cx d) es st Q X)
    (hK : ∀ vs vals s', Q vs → RVs (NN st.H Sys) s'.heap vs vals → Kp (FZ A Sys) s s' → wpAny (model G.prog G.w) A (call (.builtin n) vals) K E s') (hX : ∀ e s', Rz G.mg A Sys s X e s' → E e s') :
    wpAny (model G.prog G.w) A (eval (.Call (.Name y p) (z :: xs) [] pos) env) K E s := by
  rw [arm_eval_Call_Name']
  refine wpAny_bind (ld_bltn F hg hn ?_)
  rw [hv]
  refine Calls.callWith_builtin (star_plain pos env _ h.1) ?_
  have e : backTo pos (starEach (z :: xs) env) = (false, eval z env) :: backTo pos (starEach xs env) := by
    have := h.1
    simp only [List.all_cons, Bool.and_eq_true] at this
    rw [starEach_cons this.1]; rfl
  have hs := h.2 F pos Q X (fun vals s' => wpAny (model G.prog G.w) A (call (.builtin n) vals) K E s') E hW (fun vs vals s' q r k => hK vs vals s' q r k) hX
  rw [e] at hs ⊢
  exact Calls.evalArgs_plain hs
theorem ev_call_t {n : String} {y : Str} {p pos : Pos} {z : Expr} {xs : List Expr} {es : Es} {Q : List V → Prop} {X : String → Prop} {K E : Value → Shared → Prop} (F : Fx G d c A env lay Sys base st s) (hg : isGlob c y n = true) (hn : n ∈ bnames)
    (hv : bval n = .type n) (h : SEs G d c es (z :: xs)) (hW : WEs (G.cx d) es st Q X)
    (hK : ∀ vs vals s', Q vs → RVs (NN st.H Sys) s'.heap vs vals → Kp (FZ A Sys) s s' → wpAny (model G.prog G.w) A (call (.type n) vals) K E s') (hX : ∀ e s', Rz G.mg A Sys s X e s' → E e s') :
    wpAny (model G.prog G.w) A (eval (.Call (.Name y p) (z :: xs) [] pos) env) K E s := by
  rw [arm_eval_Call_Name']
  refine wpAny_bind (ld_bltn F hg hn ?_)
  rw [hv]
  refine callWith_type (star_plain pos env _ h.1) ?_
  have e : backTo pos (starEach (z :: xs) env) = (false, eval z env) :: backTo pos (starEach xs env) := by
    have := h.1
    simp only [List.all_cons, Bool.and_eq_true] at this
    rw [starEach_cons this.1]; rfl
  have hs := h.2 F pos Q X (fun vals s' => wpAny (model G.prog G.w) A (call (.type n) vals) K E s') E hW (fun vs vals s' q r k => hK vs vals s' q r k) hX
  rw [e] at hs ⊢
  exact Calls.evalArgs_plain hs

theorem se_len {a : E} {y : Str} {z : Expr} {p pos : Pos} (F : Fx G d c A env lay Sys base st s) (hg : isGlob c y "len" = true) (hz : noStar z = true) (ha : SE G d c a z) :
    Snd G.prog G.w G.mg A (NN st.H Sys) Sys s false (eval (.Call (.Name y p) [z] [] pos) env) (WE (G.cx d) (.len a) st) := by
  intro Q X K E hW hK hX
  simp only [we_0, we_1, we_2, we_3, we_4, we_5, we_6, we_7, we_8, we_9, we_10, we_11, we_12, we_13, we_14, we_15, we_16, we_17, we_18, we_19, we_20, we_21, we_22, we_23, we_24, we_25, we_26, we_27, we_28, we_29, we_30, we_31, we_32, we_33, we_34, we_35, we_36, we_37] at hW
  refine ev_call_b (es := .cons a .nil) (X := X) (Q := fun vs => ∃ u, vs = [u] ∧ match sizeV st.H u with | some n => Q (.int n) | none => False) F hg (by decide) rfl (ses_cons hz ha ses_nil) ?_ ?_ hX
  · simp only [wes_0, wes_1, List.cons.injEq, and_true, exists_eq_left']; exact hW
  · rintro vs vals s₁ ⟨u, rfl, h₁⟩ r k
    cases r with
    | cons r1 r2 =>
      cases r2
      split at h₁
      · rename_i n hn
        exact prim_len (F.keeps k).sim.objs hn r1 fun t s' k' => hK _ _ _ h₁ (.int _ _) (k.trans k') nofun
      · exact h₁.elim

theorem se_isi {a : E} {t : Ty} {y u : Str} {z : Expr} {p p' pos : Pos} (F : Fx G d c A env lay Sys base st s) (hg : isGlob c y "isinstance" = true) (hz : noStar z = true) (ha : SE G d c a z) (ht : isGlob c u (tyName t) = true) (htn : tyName t ∈ bnames) (htv : bval (tyName t) = .type (tyName t)) :
    Snd G.prog G.w G.mg A (NN st.H Sys) Sys s false (eval (.Call (.Name y p) [z, .Name u p'] [] pos) env) (WE (G.cx d) (.isinst a t) st) := by
  intro Q X K E hW hK hX
  simp only [we_0, we_1, we_2, we_3, we_4, we_5, we_6, we_7, we_8, we_9, we_10, we_11, we_12, we_13, we_14, we_15, we_16, we_17, we_18, we_19, we_20, we_21, we_22, we_23, we_24, we_25, we_26, we_27, we_28, we_29, we_30, we_31, we_32, we_33, we_34, we_35, we_36, we_37] at hW
  rw [arm_eval_Call_Name']
  refine wpAny_bind (ld_bltn F hg (by decide) ?_)
  show wpAny _ _ (callWith pos (.builtin "isinstance") [] _ _) _ _ _
  refine Calls.callWith_builtin (star_plain pos env [z, .Name u p'] (by rw [List.all_cons, hz]; rfl)) ?_
  have e : backTo pos (starEach [z, .Name u p'] env) = (false, eval z env) :: [(false, eval (.Name u p') env)] := by
    rw [starEach_cons hz]; rfl
  rw [e]
  refine Calls.evalArgs_plain (Calls.spliced_cons ((ha F).weak _ X _ E hW (fun v va s₁ h₁ r₁ k₁ _ => ?_) hX))
  refine Calls.spliced_cons (ld_bltn (F.keeps k₁) ht htn (Calls.spliced_nil ?_))
  rw [htv]
  split at h₁
  · rename_i b hb
    exact prim_isi (F.keeps k₁).sim.objs hb r₁ fun s' k' => hK _ _ _ h₁ (.bool _) (k₁.trans k') nofun
  · exact h₁.elim

/-- a test -/
noncomputable abbrev ST (G : PG) (d : Nat) (c : Sc) (e : E) (x : Expr) : Prop :=
  ∀ {A : Around} {env : Env} {lay : Nat → Option Place} {Sys : Addr → Prop} {base : Heap} {st : St} {s : Shared}, Fx G d c A env lay Sys base st s →
    ∀ (Q : Bool → Prop) (X : String → Prop) (K : Bool → Shared → Prop) (E : Value → Shared → Prop), WE (G.cx d) e st (fun u => match truthV st.H u with
      | some b => Q b
      | none => False) X → (∀ b s', Q b → Kp (FZ A Sys) s s' → K b s') → (∀ e s', Rz G.mg A Sys s X e s' → E e s') → wpAny (model G.prog G.w) A (isTrue x env (eval x env)) K E s

theorem st_of {e : E} {x : Expr} (he : SE G d c e x) (hx : ∀ (env : Env) (w : Sem Value), isTrue x env w = (do let v ← w; standAt x.pos; holding [v] (truthy v))) : ST G d c e x := by
  intro A env lay Sys base st s F Q X K E hW hK hX
  refine wpAny_isTrue_value ((he F).weak _ X _ E hW (fun u va s₁ h₁ r₁ k₁ _ => ?_) hX) (hx _ _)
  split at h₁
  · rename_i b hb
    obtain rfl := truth_bool r₁ hb
    exact wpAny_truthy_bool (hK b s₁ h₁ k₁)
  · exact h₁.elim

theorem WE_cg {C : Cx} {e : E} {st : St} {Q Q' : V → Prop} {X : String → Prop} (hW : WE C e st Q X) (h : ∀ v, Q v = Q' v) : WE C e st Q' X := by
  have : Q = Q' := funext h
  subst this; exact hW

theorem st_not {a : E} {y : Expr} {pos : Pos} (ha : ST G d c a y) : ST G d c (.not a) (.UnaryOp .Not y pos) := by
  intro A env lay Sys base st s F Q X K E hW hK hX
  simp only [we_0, we_1, we_2, we_3, we_4, we_5, we_6, we_7, we_8, we_9, we_10, we_11, we_12, we_13, we_14, we_15, we_16, we_17, we_18, we_19, we_20, we_21, we_22, we_23, we_24, we_25, we_26, we_27, we_28, we_29, we_30, we_31, we_32, we_33, we_34, we_35, we_36, we_37] at hW
  refine wpAny_isTrue_Not (ha F (fun b => Q (!b)) X _ E ?_ (fun b s' q k => hK _ s' q k) hX)
  refine WE_cg hW fun u => ?_
  cases truthV st.H u <;> rfl

theorem se_ite {t a b : E} {y z u : Expr} {pos : Pos} (F : Fx G d c A env lay Sys base st s) (ht : ST G d c t y) (ha : SE G d c a z) (hb : SE G d c b u) :
    Snd G.prog G.w G.mg A (NN st.H Sys) Sys s false (eval (.IfExp y z u pos) env) (WE (G.cx d) (.ite t a b) st) := by
  intro Q X K E hW hK hX
  simp only [we_0, we_1, we_2, we_3, we_4, we_5, we_6, we_7, we_8, we_9, we_10, we_11, we_12, we_13, we_14, we_15, we_16, we_17, we_18, we_19, we_20, we_21, we_22, we_23, we_24, we_25, we_26, we_27, we_28, we_29, we_30, we_31, we_32, we_33, we_34, we_35, we_36, we_37] at hW
  refine wpAny_IfExp (ht F (fun r => if r then WE (G.cx d) a st Q X else WE (G.cx d) b st Q X) X _ E ?_ (fun r s₁ q k => ?_) hX)
  · refine WE_cg hW fun u => ?_
    cases truthV st.H u with
    | none => rfl
    | some r => cases r <;> rfl
  · cases r
    · simp only [Bool.false_eq_true, if_false] at q ⊢
      exact (hb (F.keeps k)).weak _ X _ E q (fun v val s' q' r' k' _ => hK v val s' q' r' (k.trans k') nofun) fun e s' q' => hX e s' (Rz.trans k q')
    · simp only [if_true] at q ⊢
      exact (ha (F.keeps k)).weak _ X _ E q (fun v val s' q' r' k' _ => hK v val s' q' r' (k.trans k') nofun) fun e s' q' => hX e s' (Rz.trans k q')

/-- BoolOps of more than two -/
theorem wpAny_AndN {M : Model} {E : Value → Shared → Prop} {x y : Expr} {r : List Expr} {pos : Pos} {Q : Value → Shared → Prop}
    (h : wpAny M A (eval x env) (fun v s₁ => wpAny M A (truthy v) (fun t s₂ => if t then wpAny M A (eval (.BoolOp .And (y :: r) pos) env) Q E s₂ else Q v s₂) E s₁) E s) :
    wpAny M A (eval (.BoolOp .And (x :: y :: r) pos) env) Q E s := by
  show wpAny M A (do
    let v ← eval x env
    standAt pos
    let t ← holding [v] (truthy v)
    match BoolOp.And, t with
    | .And, false | .Or, true => pure v
    | _, _ => boolOp pos .And (evalEach (y :: r) env)) Q E s
  refine wpAny_bind (wpAny_mono h (fun v s₁ h₁ => wpAny_bind (wpAny_standAt (wpAny_bind (wpAny_holding (wpAny_mono h₁ (fun t s₂ h₂ => ?_) fun _ _ x => x))))) fun _ _ x => x)
  cases t with
  | false => exact wpAny_pure h₂
  | true => exact h₂
theorem wpAny_OrN {M : Model} {E : Value → Shared → Prop} {x y : Expr} {r : List Expr} {pos : Pos} {Q : Value → Shared → Prop}
    (h : wpAny M A (eval x env) (fun v s₁ => wpAny M A (truthy v) (fun t s₂ => if t then Q v s₂ else wpAny M A (eval (.BoolOp .Or (y :: r) pos) env) Q E s₂) E s₁) E s) :
    wpAny M A (eval (.BoolOp .Or (x :: y :: r) pos) env) Q E s := by
  show wpAny M A (do
    let v ← eval x env
    standAt pos
    let t ← holding [v] (truthy v)
    match BoolOp.Or, t with
    | .And, false | .Or, true => pure v
    | _, _ => boolOp pos .Or (evalEach (y :: r) env)) Q E s
  refine wpAny_bind (wpAny_mono h (fun v s₁ h₁ => wpAny_bind (wpAny_standAt (wpAny_bind (wpAny_holding (wpAny_mono h₁ (fun t s₂ h₂ => ?_) fun _ _ x => x))))) fun _ _ x => x)
  cases t with
  | false => exact h₂
  | true => exact wpAny_pure h₂
theorem se_andN {a b : E} {x y : Expr} {r : List Expr} {pos : Pos} (F : Fx G d c A env lay Sys base st s) (ha : SE G d c a x) (hb : SE G d c b (.BoolOp .And (y :: r) pos)) :
    Snd G.prog G.w G.mg A (NN st.H Sys) Sys s false (eval (.BoolOp .And (x :: y :: r) pos) env) (WE (G.cx d) (.and a b) st) := by
  intro Q X K E hW hK hX
  simp only [we_0, we_1, we_2, we_3, we_4, we_5, we_6, we_7, we_8, we_9, we_10, we_11, we_12, we_13, we_14, we_15, we_16, we_17, we_18, we_19, we_20, we_21, we_22, we_23, we_24, we_25, we_26, we_27, we_28, we_29, we_30, we_31, we_32, we_33, we_34, we_35, we_36, we_37] at hW
  refine wpAny_AndN ((ha F).weak _ X _ E hW (fun u va s₁ h₁ r₁ k₁ _ => ?_) hX)
  split at h₁
  · rename_i hb'
    obtain rfl := truth_bool r₁ hb'
    refine wpAny_truthy_bool ?_
    rw [if_pos rfl]
    exact (hb (F.keeps k₁)).weak _ X _ E h₁ (fun v val s' q r k _ => hK v val s' q r (k₁.trans k) nofun) fun e s' q => hX e s' (Rz.trans k₁ q)
  · rename_i hb'
    obtain rfl := truth_bool r₁ hb'
    refine wpAny_truthy_bool ?_
    rw [if_neg (by simp)]
    exact hK _ _ _ h₁ r₁ k₁ nofun
  · exact h₁.elim
theorem se_orN {a b : E} {x y : Expr} {r : List Expr} {pos : Pos} (F : Fx G d c A env lay Sys base st s) (ha : SE G d c a x) (hb : SE G d c b (.BoolOp .Or (y :: r) pos)) :
    Snd G.prog G.w G.mg A (NN st.H Sys) Sys s false (eval (.BoolOp .Or (x :: y :: r) pos) env) (WE (G.cx d) (.or a b) st) := by
  intro Q X K E hW hK hX
  simp only [we_0, we_1, we_2, we_3, we_4, we_5, we_6, we_7, we_8, we_9, we_10, we_11, we_12, we_13, we_14, we_15, we_16, we_17, we_18, we_19, we_20, we_21, we_22, we_23, we_24, we_25, we_26, we_27, we_28, we_29, we_30, we_31, we_32, we_33, we_34, we_35, we_36, we_37] at hW
  refine wpAny_OrN ((ha F).weak _ X _ E hW (fun u va s₁ h₁ r₁ k₁ _ => ?_) hX)
  split at h₁
  · rename_i hb'
    obtain rfl := truth_bool r₁ hb'
    refine wpAny_truthy_bool ?_
    rw [if_pos rfl]
    exact hK _ _ _ h₁ r₁ k₁ nofun
  · rename_i hb'
    obtain rfl := truth_bool r₁ hb'
    refine wpAny_truthy_bool ?_
    rw [if_neg (by simp)]
    exact (hb (F.keeps k₁)).weak _ X _ E h₁ (fun v val s' q r k _ => hK v val s' q r (k₁.trans k) nofun) fun e s' q => hX e s' (Rz.trans k₁ q)
  · exact h₁.elim

theorem st_and {a b : E} {x y : Expr} {r : List Expr} {pos p' : Pos} (ha : ST G d c a x) (hb : ST G d c b (.BoolOp .And (y :: r) p')) : ST G d c (.and a b) (.BoolOp .And (x :: y :: r) pos) := by
  intro A env lay Sys base st s F Q X K E hW hK hX
  simp only [we_0, we_1, we_2, we_3, we_4, we_5, we_6, we_7, we_8, we_9, we_10, we_11, we_12, we_13, we_14, we_15, we_16, we_17, we_18, we_19, we_20, we_21, we_22, we_23, we_24, we_25, we_26, we_27, we_28, we_29, we_30, we_31, we_32, we_33, we_34, we_35, we_36, we_37] at hW
  have hW := WE_cg (Q' := fun u => match truthV st.H u with
      | some r => if r then WE (G.cx d) b st (fun u => match truthV st.H u with
        | some b => Q b
        | none => False) X else Q false
      | none => False) hW fun u => by
    cases e : truthV st.H u with
    | none => rfl
    | some r => cases r <;> simp only [e] <;> rfl
  refine wpAny_isTrue_BoolOp (wpAny_allTrue_And_cons (ha F _ X _ E hW (fun t s₁ q k => ?_) hX))
  cases t
  · simp only [Bool.false_eq_true, if_false] at q ⊢; exact hK false s₁ q k
  · simp only [if_true] at q ⊢
    have := hb (F.keeps k) Q X K E q (fun b s' q' k' => hK b s' q' (k.trans k')) fun e s' q' => hX e s' (Rz.trans k q')
    rw [arm_isTrue_BoolOp] at this
    exact this
theorem st_and2 {a b : E} {x y : Expr} {pos : Pos} (ha : ST G d c a x) (hb : ST G d c b y) : ST G d c (.and a b) (.BoolOp .And [x, y] pos) := by
  intro A env lay Sys base st s F Q X K E hW hK hX
  simp only [we_0, we_1, we_2, we_3, we_4, we_5, we_6, we_7, we_8, we_9, we_10, we_11, we_12, we_13, we_14, we_15, we_16, we_17, we_18, we_19, we_20, we_21, we_22, we_23, we_24, we_25, we_26, we_27, we_28, we_29, we_30, we_31, we_32, we_33, we_34, we_35, we_36, we_37] at hW
  have hW := WE_cg (Q' := fun u => match truthV st.H u with
      | some r => if r then WE (G.cx d) b st (fun u => match truthV st.H u with
        | some b => Q b
        | none => False) X else Q false
      | none => False) hW fun u => by
    cases e : truthV st.H u with
    | none => rfl
    | some r => cases r <;> simp only [e] <;> rfl
  refine wpAny_isTrue_BoolOp (wpAny_allTrue_And_cons (ha F _ X _ E hW (fun t s₁ q k => ?_) hX))
  cases t
  · simp only [Bool.false_eq_true, if_false] at q ⊢; exact hK false s₁ q k
  · simp only [if_true] at q ⊢
    refine wpAny_allTrue_And_cons (hb (F.keeps k) Q X _ E q (fun b s' q' k' => ?_) fun e s' q' => hX e s' (Rz.trans k q'))
    cases b
    · exact hK false s' q' (k.trans k')
    · exact wpAny_allTrue_And_nil (hK true s' q' (k.trans k'))
theorem st_or {a b : E} {x y : Expr} {r : List Expr} {pos p' : Pos} (ha : ST G d c a x) (hb : ST G d c b (.BoolOp .Or (y :: r) p')) : ST G d c (.or a b) (.BoolOp .Or (x :: y :: r) pos) := by
  intro A env lay Sys base st s F Q X K E hW hK hX
  simp only [we_0, we_1, we_2, we_3, we_4, we_5, we_6, we_7, we_8, we_9, we_10, we_11, we_12, we_13, we_14, we_15, we_16, we_17, we_18, we_19, we_20, we_21, we_22, we_23, we_24, we_25, we_26, we_27, we_28, we_29, we_30, we_31, we_32, we_33, we_34, we_35, we_36, we_37] at hW
  have hW := WE_cg (Q' := fun u => match truthV st.H u with
      | some r => if r then Q true else WE (G.cx d) b st (fun u => match truthV st.H u with
        | some b => Q b
        | none => False) X
      | none => False) hW fun u => by
    cases e : truthV st.H u with
    | none => rfl
    | some r => cases r <;> simp only [e] <;> rfl
  refine wpAny_isTrue_BoolOp (wpAny_allTrue_Or_cons (ha F _ X _ E hW (fun t s₁ q k => ?_) hX))
  cases t
  · simp only [Bool.false_eq_true, if_false] at q ⊢
    have := hb (F.keeps k) Q X K E q (fun b s' q' k' => hK b s' q' (k.trans k')) fun e s' q' => hX e s' (Rz.trans k q')
    rw [arm_isTrue_BoolOp] at this
    exact this
  · simp only [if_true] at q ⊢; exact hK true s₁ q k
theorem st_or2 {a b : E} {x y : Expr} {pos : Pos} (ha : ST G d c a x) (hb : ST G d c b y) : ST G d c (.or a b) (.BoolOp .Or [x, y] pos) := by
  intro A env lay Sys base st s F Q X K E hW hK hX
  simp only [we_0, we_1, we_2, we_3, we_4, we_5, we_6, we_7, we_8, we_9, we_10, we_11, we_12, we_13, we_14, we_15, we_16, we_17, we_18, we_19, we_20, we_21, we_22, we_23, we_24, we_25, we_26, we_27, we_28, we_29, we_30, we_31, we_32, we_33, we_34, we_35, we_36, we_37] at hW
  have hW := WE_cg (Q' := fun u => match truthV st.H u with
      | some r => if r then Q true else WE (G.cx d) b st (fun u => match truthV st.H u with
        | some b => Q b
        | none => False) X
      | none => False) hW fun u => by
    cases e : truthV st.H u with
    | none => rfl
    | some r => cases r <;> simp only [e] <;> rfl
  refine wpAny_isTrue_BoolOp (wpAny_allTrue_Or_cons (ha F _ X _ E hW (fun t s₁ q k => ?_) hX))
  cases t
  · simp only [Bool.false_eq_true, if_false] at q ⊢
    refine wpAny_allTrue_Or_cons (hb (F.keeps k) Q X _ E q (fun b s' q' k' => ?_) fun e s' q' => hX e s' (Rz.trans k q'))
    cases b
    · exact wpAny_allTrue_Or_nil (hK false s' q' (k.trans k'))
    · exact hK true s' q' (k.trans k')
  · simp only [if_true] at q ⊢; exact hK true s₁ q k

theorem cmp_eval {l : Expr} {ops : List CmpOp} {rs : List Expr} {pos : Pos} (hm : lastMarks ops rs = false) : eval (.Compare l ops rs pos) env = (do compareChain pos (← eval l env) ops (evalEach rs env)) := by
  show (do compareChain pos (← eval l env) ops (markedEach ops rs (evalEach rs env))) = _
  rw [PyProof.Rows.markedEach_of_false _ _ _ hm]
theorem cmp_test {l : Expr} {ops : List CmpOp} {rs : List Expr} {pos : Pos} {w : Sem Value} (hm : lastMarks ops rs = false) : isTrue (.Compare l ops rs pos) env w = (do testChain pos (← eval l env) ops (evalEach rs env)) := by
  show (do testChain pos (← eval l env) ops (markedEach ops rs (evalEach rs env))) = _
  rw [PyProof.Rows.markedEach_of_false _ _ _ hm]

theorem se_cmp {a : E} {ch : Ch} {l : Expr} {ops : List CmpOp} {rs : List Expr} {pos : Pos} (F : Fx G d c A env lay Sys base st s) (ha : SE G d c a l) (hc : SCh G d c ch ops rs) (hm : lastMarks ops rs = false) :
    Snd G.prog G.w G.mg A (NN st.H Sys) Sys s false (eval (.Compare l ops rs pos) env) (WE (G.cx d) (.cmp a ch) st) := by
  intro Q X K E hW hK hX
  simp only [we_0, we_1, we_2, we_3, we_4, we_5, we_6, we_7, we_8, we_9, we_10, we_11, we_12, we_13, we_14, we_15, we_16, we_17, we_18, we_19, we_20, we_21, we_22, we_23, we_24, we_25, we_26, we_27, we_28, we_29, we_30, we_31, we_32, we_33, we_34, we_35, we_36, we_37] at hW
  rw [cmp_eval hm]
  refine wpAny_bind ((ha F).weak _ X _ E hW (fun u va s₁ h₁ r₁ k₁ _ => ?_) hX)
  exact (hc (F.keeps k₁) u va pos r₁ _ X h₁).1 K E (fun r s' q k => hK _ _ _ q (.bool _) (k₁.trans k) nofun) fun e s' q => hX e s' (Rz.trans k₁ q)
theorem st_cmp {a : E} {ch : Ch} {l : Expr} {ops : List CmpOp} {rs : List Expr} {pos : Pos} (ha : SE G d c a l) (hc : SCh G d c ch ops rs) (hm : lastMarks ops rs = false) : ST G d c (.cmp a ch) (.Compare l ops rs pos) := by
  intro A env lay Sys base st s F Q X K E hW hK hX
  simp only [we_0, we_1, we_2, we_3, we_4, we_5, we_6, we_7, we_8, we_9, we_10, we_11, we_12, we_13, we_14, we_15, we_16, we_17, we_18, we_19, we_20, we_21, we_22, we_23, we_24, we_25, we_26, we_27, we_28, we_29, we_30, we_31, we_32, we_33, we_34, we_35, we_36, we_37] at hW
  rw [cmp_test hm]
  refine wpAny_bind ((ha F).weak _ X _ E hW (fun u va s₁ h₁ r₁ k₁ _ => ?_) hX)
  exact (hc (F.keeps k₁) u va pos r₁ _ X h₁).2 K E (fun r s' q k => hK _ _ q (k₁.trans k)) fun e s' q => hX e s' (Rz.trans k₁ q)
end

end Mine
end

section
set_option autoImplicit false
namespace Mine
open PySem

/-- an iterator that hands out so many things -/
structure WK (prog : Program) (w : World) (A : Around) (I : Addr) (fp wr : List Addr) (nw : Bool) (n : Nat) (P Mi : Nat → Value → Heap → Prop) (Si : Nat → Heap → Prop) : Prop where
  sub : ∀ b ∈ wr, b ∈ fp
  ex : ∀ i h, Si i h → ∀ b ∈ wr, h.get? b ≠ none
  frame : ∀ i h h', Si i h → (∀ b ∈ fp, ∀ o, h.get? b = some o → h'.get? b = some o) → Si i h'
  item : ∀ i (s : Shared) (Q : Option Value → Shared → Prop) (E : Value → Shared → Prop), i < n → Si i s.heap →
    (∀ v h' tk, Mi i v h' → (nw = true → ∀ t, v = .ref t → s.heap.get? t = none) → (∀ b o, b ∉ wr → s.heap.get? b = some o → h'.get? b = some o) → Q (some v) { s with heap := h', toks := tk }) → wpAny (model prog w) A (pyNext (.ref I)) Q E s
  done : ∀ (s : Shared) (Q : Option Value → Shared → Prop) (E : Value → Shared → Prop), Hq A s.heap → (∀ y, A.handled = some (.ref y) → y ∉ wr) → Si n s.heap →
    (∀ h' tk, (∀ b o, b ∉ wr → s.heap.get? b = some o → h'.get? b = some o) → Q none { s with heap := h', toks := tk }) → wpAny (model prog w) A (pyNext (.ref I)) Q E s
  own : ∀ i (s : Shared) (v : Value) (t : Expr) (Q : Unit → Shared → Prop) (E : Value → Shared → Prop), Mi i v s.heap → (nw = true → isTupX t = true) →
    (∀ h', Si (i + 1) h' → P i v h' → (∀ b o, b ∉ wr → s.heap.get? b = some o → h'.get? b = some o) → Q () { s with heap := h' }) → wpAny (model prog w) A (letOwnedTupleGo t (.ref I) v) Q E s
  self : ∀ i (s : Shared) (Q : Value → Shared → Prop) (E : Value → Shared → Prop), Si i s.heap → Q (.ref I) s → wpAny (model prog w) A (pyIter (.ref I)) Q E s

theorem own_plain {prog : Program} {w : World} {A : Around} {I : Addr} {s : Shared} {v : Value} {t : Expr} {T : String} {Q : Unit → Shared → Prop} {E : Value → Shared → Prop} (hI : ∃ o, s.heap.get? I = some o ∧ o.cls = .type T)
    (hT : ["enumerate", "zip", "dict_itemiterator", "dict_reverseitemiterator", "odict_iterator", "itertools.zip_longest", "itertools.pairwise"].contains T = false) (h : Q () s) : wpAny (model prog w) A (letOwnedTupleGo t (.ref I) v) Q E s := by
  obtain ⟨o, ho, hc⟩ := hI
  have key : wpAny (model prog w) A (match (Value.ref I, v) with
    | (.ref r, .ref a) => (do
      let o ← load r
      match o.cls, o.data with
      | .type n, .fields vs =>
        if ["enumerate", "zip", "dict_itemiterator", "dict_reverseitemiterator", "odict_iterator", "itertools.zip_longest", "itertools.pairwise"].contains n && vs[0]? == some (rawInt a) then
          rule "for.unpacks-the-owned-tuple"
          updateField r 0 .none
      | _, _ => pure () : Sem Unit)
    | _ => pure ()) Q E s := by
    cases v with
    | ref a =>
      refine wpAny_bind (wpAny_load ho ?_)
      rw [hc]
      cases o.data <;> first
        | exact wpAny_pure h
        | (dsimp only; rw [if_neg (by rw [hT]; simp)]; exact wpAny_pure h)
    | _ => exact wpAny_pure h
  unfold letOwnedTupleGo
  cases t <;> first
    | exact wpAny_pure h
    | exact key

theorem WK.of {prog : Program} {w : World} {A : Around} {I : Addr} {fp : List Addr} {n : Nat} {P : Nat → Value → Prop} {Si : Nat → Heap → Prop} {T : String} (hI0 : I ∈ fp)
    (frame : ∀ i h h', Si i h → (∀ b ∈ fp, ∀ o, h.get? b = some o → h'.get? b = some o) → Si i h')
    (item : ∀ i (s : Shared) (Q : Option Value → Shared → Prop) (E : Value → Shared → Prop), i < n → Si i s.heap → (∀ v h' tk, P i v → Si (i + 1) h' → Heap.SameBut I s.heap h' → Q (some v) { s with heap := h', toks := tk }) → wpAny (model prog w) A (pyNext (.ref I)) Q E s)
    (done : ∀ (s : Shared) (Q : Option Value → Shared → Prop) (E : Value → Shared → Prop), Hq A s.heap → (∀ y, A.handled = some (.ref y) → y ≠ I) → Si n s.heap → (∀ h', Heap.ExtBut I s.heap h' → Q none { s with heap := h' }) → wpAny (model prog w) A (pyNext (.ref I)) Q E s)
    (self : ∀ i (s : Shared) (Q : Value → Shared → Prop) (E : Value → Shared → Prop), Si i s.heap → Q (.ref I) s → wpAny (model prog w) A (pyIter (.ref I)) Q E s)
    (hT : ["enumerate", "zip", "dict_itemiterator", "dict_reverseitemiterator", "odict_iterator", "itertools.zip_longest", "itertools.pairwise"].contains T = false) (hI : ∀ i h, Si i h → ∃ o, h.get? I = some o ∧ o.cls = .type T) :
    WK prog w A I fp [I] false n (fun i v _ => P i v) (fun i v h => P i v ∧ Si (i + 1) h) Si where
  sub := fun b hb => List.mem_singleton.mp hb ▸ hI0
  ex := fun i h hs b hb e => by
    obtain rfl := List.mem_singleton.mp hb
    obtain ⟨o, ho, _⟩ := hI i h hs
    rw [ho] at e; cases e
  frame := frame
  item := fun i s Q E hi hs hQ => item i s Q E hi hs fun v h' tk hp hs' hk => hQ v h' tk ⟨hp, hs'⟩ nofun fun b o hb e => hk.extBut b o (fun q => hb (q ▸ List.mem_singleton.mpr rfl)) e
  done := fun s Q E h1 h2 hs hQ => done s Q E h1 (fun y hy q => h2 y hy (q ▸ List.mem_singleton.mpr rfl)) hs fun h' hk => hQ h' s.toks fun b o hb e => hk b o (fun q => hb (q ▸ List.mem_singleton.mpr rfl)) e
  own := fun i s v t Q E hs _ hQ => own_plain (hI _ _ hs.2) hT (hQ s.heap hs.2 hs.1 fun _ _ _ e => e)
  self := self
section
variable {prog : Program} {w : World} {A : Around}
theorem wk_list (I ax : Addr) (hne : ax ≠ I) (items : Array Value) : WK prog w A I [I, ax] [I] false items.size (fun i v _ => items[i]? = some v) (fun i v h => items[i]? = some v ∧ (h.IsListIter I ax (i + 1) ∧ h.IsList ax items)) (fun i h => h.IsListIter I ax i ∧ h.IsList ax items) :=
  WK.of (P := fun i v => items[i]? = some v) (Si := fun i h => h.IsListIter I ax i ∧ h.IsList ax items) (T := "list_iterator") (List.mem_cons_self ..) (fun _ _ _ st hk => ⟨st.1.at fun o e => hk I (List.mem_cons_self ..) o e, st.2.at fun o e => hk ax (List.mem_cons_of_mem _ (List.mem_cons_self ..)) o e⟩)
    (fun i s Q E hi st hQ => wpAny_pyNext_list_item st.1 st.2 (x := items[i]) (Array.getElem?_eq_getElem hi) fun h' hit' hs' => hQ _ h' s.toks (Array.getElem?_eq_getElem hi) ⟨hit', st.2.extBut hs'.extBut hne⟩ hs')
    (fun s Q E h1 h2 st hQ => list_end h1 h2 st.1 st.2 (Array.getElem?_eq_none (Nat.le_refl _)) hQ) (fun _ _ _ _ st hQ => wpAny_pyIter_listiter st.1 hQ) (by decide) (fun i h q => ⟨_, q.1.choose_spec.1, q.1.choose_spec.2.1⟩)
theorem wk_tuple (I ax : Addr) (hne : ax ≠ I) (items : Array Value) : WK prog w A I [I, ax] [I] false items.size (fun i v _ => items[i]? = some v) (fun i v h => items[i]? = some v ∧ (h.IsTupleIter I ax (i + 1) ∧ h.IsTuple ax items)) (fun i h => h.IsTupleIter I ax i ∧ h.IsTuple ax items) :=
  WK.of (P := fun i v => items[i]? = some v) (Si := fun i h => h.IsTupleIter I ax i ∧ h.IsTuple ax items) (T := "tuple_iterator") (List.mem_cons_self ..) (fun _ _ _ st hk => ⟨st.1.at fun o e => hk I (List.mem_cons_self ..) o e, st.2.at fun o e => hk ax (List.mem_cons_of_mem _ (List.mem_cons_self ..)) o e⟩)
    (fun i s Q E hi st hQ => wpAny_pyNext_tuple_item st.1 st.2 (x := items[i]) (Array.getElem?_eq_getElem hi) fun h' hit' hs' => hQ _ h' s.toks (Array.getElem?_eq_getElem hi) ⟨hit', st.2.extBut hs'.extBut hne⟩ hs')
    (fun s Q E h1 h2 st hQ => tuple_end h1 h2 st.1 st.2 (Array.getElem?_eq_none (Nat.le_refl _)) hQ) (fun _ _ _ _ st hQ => wpAny_pyIter_tupleiter st.1 hQ) (by decide) (fun i h q => ⟨_, q.1.choose_spec.1, q.1.choose_spec.2.1⟩)
theorem wk_ascii (I : Addr) (x : Str) (t : Tok) : WK prog w A I [I] [I] false x.cps.size (fun i v _ => SignAt x i v) (fun i v h => SignAt x i v ∧ h.IsStrIter I "str_ascii_iterator" x t (i + 1)) (fun i h => h.IsStrIter I "str_ascii_iterator" x t i) :=
  WK.of (P := SignAt x) (Si := fun i h => h.IsStrIter I "str_ascii_iterator" x t i) (T := "str_ascii_iterator") (List.mem_cons_self ..) (fun _ _ _ st hk => let ⟨o, ho, r⟩ := st; ⟨o, hk I (List.mem_cons_self ..) o ho, r⟩)
    (fun i s Q E hi st hQ => wpAny_pyNext_ascii_item st (c := x.cps[i]) (Array.getElem?_eq_getElem hi) fun h' hit' hs' => hQ _ h' (s.toks + 1) ⟨_, _, Array.getElem?_eq_getElem hi, rfl⟩ hit' hs')
    (fun s Q E h1 h2 st hQ => ascii_end h1 h2 st (Array.getElem?_eq_none (Nat.le_refl _)) hQ) (fun _ _ _ _ st hQ => wpAny_pyIter_striter_ascii st hQ) (by decide) (fun i h q => ⟨_, q.choose_spec.1, q.choose_spec.2.1⟩)
theorem wk_wide (I : Addr) (x : Str) (t : Tok) : WK prog w A I [I] [I] false x.cps.size (fun i v _ => SignAt x i v) (fun i v h => SignAt x i v ∧ h.IsStrIter I "str_iterator" x t (i + 1)) (fun i h => h.IsStrIter I "str_iterator" x t i) :=
  WK.of (P := SignAt x) (Si := fun i h => h.IsStrIter I "str_iterator" x t i) (T := "str_iterator") (List.mem_cons_self ..) (fun _ _ _ st hk => let ⟨o, ho, r⟩ := st; ⟨o, hk I (List.mem_cons_self ..) o ho, r⟩)
    (fun i s Q E hi st hQ => wpAny_pyNext_wide_item st (c := x.cps[i]) (Array.getElem?_eq_getElem hi) fun h' hit' hs' => hQ _ h' (s.toks + 1) ⟨_, _, Array.getElem?_eq_getElem hi, rfl⟩ hit' hs')
    (fun s Q E h1 h2 st hQ => wide_end h1 h2 st (Array.getElem?_eq_none (Nat.le_refl _)) hQ) (fun _ _ _ _ st hQ => wpAny_pyIter_striter_wide st hQ) (by decide) (fun i h q => ⟨_, q.choose_spec.1, q.choose_spec.2.1⟩)
theorem wk_range (I : Addr) (a c : Int) (n : Nat) : WK prog w A I [I] [I] false n (fun i v _ => ∃ t, v = .int (a + i * c) t) (fun i v h => (∃ t, v = .int (a + i * c) t) ∧ IsRangeIter h I (a + ((i + 1 : Nat) : Int) * c) ((n : Int) - ((i + 1 : Nat) : Int)) c) (fun i h => IsRangeIter h I (a + (i : Nat) * c) ((n : Int) - (i : Nat)) c) :=
  WK.of (P := fun i v => ∃ t, v = .int (a + i * c) t) (Si := fun i h => IsRangeIter h I (a + (i : Nat) * c) ((n : Int) - (i : Nat)) c) (T := "range_iterator") (List.mem_cons_self ..) (fun _ _ _ st hk => hk I (List.mem_cons_self ..) _ st)
    (fun i s Q E hi st hQ => wpAny_pyNext_range_item st (by omega) fun h' hit' hs' => hQ _ h' _ ⟨_, rfl⟩ (by
      have e1 : a + ((i + 1 : Nat) : Int) * c = a + (i : Int) * c + c := by push_cast; rw [Int.add_mul, Int.one_mul, Int.add_assoc]
      have e2 : (n : Int) - ((i + 1 : Nat) : Int) = (n : Int) - (i : Int) - 1 := by push_cast; omega
      rw [e1, e2]; exact hit') hs')
    (fun s Q E h1 _ st hQ => range_end h1 st (by omega) hQ) (fun _ _ _ _ st hQ => wpAny_pyIter_rangeiter st hQ) (by decide) (fun i h q => ⟨_, q, rfl⟩)
end

/-- what the walk over an iterable gives -/
structure ItOk (G : PG) (A : Around) (H : AH) (Sys : Addr → Prop) (s s' : Shared) (vs : List V) (ds : List Nat) (I : Addr) (nw : Bool) : Prop where
  ex : ∃ (fp wr : List Addr) (P Mi : Nat → Value → Heap → Prop) (Si : Nat → Heap → Prop), WK G.prog G.w A I fp wr nw vs.length P Mi Si ∧ Si 0 s'.heap ∧ (∀ b ∈ wr, s.heap.get? b = none) ∧ (∀ b ∈ fp, ∃ o, s'.heap.get? b = some o) ∧
    (∀ b ∈ fp, b ∉ wr → (¬ NN H Sys b ∨ (b ∈ ds ∧ H b ≠ none))) ∧
    (∀ i v val h, vs[i]? = some v → P i val h → match nw with
      | false => RV (NN H (fun a => Sys a ∨ a ∈ wr)) s'.heap v val
      | true => ∃ t xs n ws, v = .tup ws ∧ val = .ref t ∧ IsT h t xs n ∧ xs.size ≤ sizeLine ∧ RVs (NN H (fun a => Sys a ∨ a ∈ wr)) s'.heap ws xs.toList)

noncomputable abbrev SI (G : PG) (d : Nat) (c : Sc) (it : It) (x : Expr) : Prop :=
  ∀ {A : Around} {env : Env} {lay : Nat → Option Place} {Sys : Addr → Prop} {base : Heap} {st : St} {s : Shared}, Fx G d c A env lay Sys base st s →
    ∀ (Q : List V → List Nat → Prop) (X : String → Prop) (K : Value → Shared → Prop) (E : Value → Shared → Prop), WI (G.cx d) it st Q X →
      (∀ vs ds I s', Q vs ds → Kp (FZ A Sys) s s' → ItOk G A st.H Sys s s' vs ds I (isEZ it) → K (.ref I) s') → (∀ e s', Rz G.mg A Sys s X e s' → E e s') →
      wpAny (model G.prog G.w) A (eval x env) (fun v s₁ => wpAny (model G.prog G.w) A (pyIter v) K E s₁) E s

section
variable {G : PG} {d : Nat} {c : Sc} {A : Around} {env : Env} {lay : Nat → Option Place} {Sys : Addr → Prop} {base : Heap} {st : St} {s : Shared} {H : AH}

theorem NN.more {wr : List Addr} {b : Addr} (h : NN H (fun a => Sys a ∨ a ∈ wr) b) : NN H Sys b ∨ b ∈ wr := by
  rcases h with h | h | h
  · exact .inl (.inl h)
  · exact .inl (.inr h)
  · exact .inr h

/-- an item of a row that stands, behind a step of the walk -/
theorem item_rv {Sys : Addr → Prop} {I : Addr} {h₀ h₁ : Heap} {vs : List V} {xs : List Value} (r : RVs (NN H Sys) h₀ vs xs) (hI : h₀.get? I = none) (k : HK h₀ h₁) {i : Nat} {v : V} {val : Value} (hv : vs[i]? = some v) (hx : xs[i]? = some val) : RV (NN H (fun a => Sys a ∨ a ∈ [I])) h₁ v val := by
  obtain ⟨x, e, rx⟩ := r.get i hv
  rw [hx] at e; cases e
  refine rx.gen (fun b q => ?_) fun b o nb e => k b o e
  rcases NN.more q with q | q
  · exact .inl q
  · rw [List.mem_singleton.mp q]; exact .inr hI

theorem it_list {a : Addr} {xs : Array Value} {n : Nat} {vs : List V} {ds : List Nat} {K E : Value → Shared → Prop} (F : Fx G d c A env lay Sys base st s) (hl : IsL s.heap a xs n) (r : RVs (NN st.H Sys) s.heap vs xs.toList)
    (hd : ¬ NN st.H Sys a ∨ (a ∈ ds ∧ st.H a ≠ none)) (hK : ∀ I s', Kp (FZ A Sys) s s' → ItOk G A st.H Sys s s' vs ds I false → K (.ref I) s') : wpAny (model G.prog G.w) A (pyIter (.ref a)) K E s := by
  refine wpAny_pyIter_list hl.isList (hK _ _ (Kp.ofH (HK.push _ _)) ⟨?_⟩)
  have hne : a ≠ s.heap.objs.size := Nat.ne_of_lt (Heap.lt_size hl)
  have hsz := r.size
  refine ⟨[s.heap.objs.size, a], [s.heap.objs.size], _, _, _, hsz ▸ wk_list s.heap.objs.size a hne xs, ?_, ?_, ?_, ?_, ?_⟩
  · exact ⟨⟨_, Heap.get?_push_size _ rfl, rfl, rfl⟩, ⟨_, Heap.get?_push_of_some _ hl, rfl, _, rfl⟩⟩
  · intro b hb; rw [List.mem_singleton.mp hb]; exact fresh_size _
  · intro b hb
    simp only [List.mem_cons, List.not_mem_nil, or_false] at hb
    rcases hb with rfl | rfl
    · exact ⟨_, Heap.get?_push_size _ rfl⟩
    · exact ⟨_, Heap.get?_push_of_some _ hl⟩
  · intro b hb hw
    simp only [List.mem_cons, List.not_mem_nil, or_false] at hb hw
    rcases hb with rfl | rfl
    · exact absurd rfl hw
    · exact hd
  · intro i v val h hv hp
    exact item_rv r (fresh_size _) (HK.push _ _) hv (by simpa using hp)

theorem it_tup {a : Addr} {xs : Array Value} {n : Nat} {vs : List V} {ds : List Nat} {K E : Value → Shared → Prop} (F : Fx G d c A env lay Sys base st s) (hl : IsT s.heap a xs n) (r : RVs (NN st.H Sys) s.heap vs xs.toList)
    (hd : ¬ NN st.H Sys a ∨ (a ∈ ds ∧ st.H a ≠ none)) (hK : ∀ I s', Kp (FZ A Sys) s s' → ItOk G A st.H Sys s s' vs ds I false → K (.ref I) s') : wpAny (model G.prog G.w) A (pyIter (.ref a)) K E s := by
  refine wpAny_pyIter_tuple (IsT.isTuple hl) (hK _ _ (Kp.ofH (HK.push _ _)) ⟨?_⟩)
  have hne : a ≠ s.heap.objs.size := Nat.ne_of_lt (Heap.lt_size hl)
  have hsz := r.size
  refine ⟨[s.heap.objs.size, a], [s.heap.objs.size], _, _, _, hsz ▸ wk_tuple s.heap.objs.size a hne xs, ?_, ?_, ?_, ?_, ?_⟩
  · exact ⟨⟨_, Heap.get?_push_size _ rfl, rfl, rfl⟩, ⟨_, Heap.get?_push_of_some _ hl, rfl, _, rfl⟩⟩
  · intro b hb; rw [List.mem_singleton.mp hb]; exact fresh_size _
  · intro b hb
    simp only [List.mem_cons, List.not_mem_nil, or_false] at hb
    rcases hb with rfl | rfl
    · exact ⟨_, Heap.get?_push_size _ rfl⟩
    · exact ⟨_, Heap.get?_push_of_some _ hl⟩
  · intro b hb hw
    simp only [List.mem_cons, List.not_mem_nil, or_false] at hb hw
    rcases hb with rfl | rfl
    · exact absurd rfl hw
    · exact hd
  · intro i v val h hv hp
    exact item_rv r (fresh_size _) (HK.push _ _) hv (by simpa using hp)

theorem it_str {x : Str} {t : Tok} {ds : List Nat} {K E : Value → Shared → Prop} (F : Fx G d c A env lay Sys base st s) (hx : SOk x)
    (hK : ∀ I s', Kp (FZ A Sys) s s' → ItOk G A st.H Sys s s' (signsOf x) ds I false → K (.ref I) s') : wpAny (model G.prog G.w) A (pyIter (.str x t)) K E s := by
  have hsz : (signsOf x).length = x.cps.size := by simp [signsOf]
  have sign : ∀ (Sy : Addr → Prop) (h : Heap) (i : Nat) (v : V) (val : Value), (signsOf x)[i]? = some v → SignAt x i val → RV (NN st.H Sy) h v val := by
    rintro Sy h i v val hv ⟨c, u, hc, rfl⟩
    have hc' : x.cps.toList[i]? = some c := by rw [Array.getElem?_toList]; exact hc
    simp only [signsOf, List.getElem?_map, hc', Option.map_some, Option.some.injEq] at hv
    subst hv
    exact .str _ _ (hx.one (List.mem_of_getElem? hc'))
  cases ha : x.cps.all (· < 128)
  · refine wpAny_pyIter_wide ha (hK _ _ (Kp.ofH (HK.push _ _)) ⟨?_⟩)
    refine ⟨[s.heap.objs.size], [s.heap.objs.size], _, _, _, hsz ▸ wk_wide s.heap.objs.size x t, ⟨_, Heap.get?_push_size _ rfl, rfl, rfl⟩, ?_, ?_, ?_, ?_⟩
    · intro b hb; rw [List.mem_singleton.mp hb]; exact fresh_size _
    · intro b hb; rw [List.mem_singleton.mp hb]; exact ⟨_, Heap.get?_push_size _ rfl⟩
    · intro b hb hw; exact absurd hb hw
    · intro i v val h hv hp; exact sign _ _ _ _ _ hv hp
  · refine wpAny_pyIter_ascii ha (hK _ _ (Kp.ofH (HK.push _ _)) ⟨?_⟩)
    refine ⟨[s.heap.objs.size], [s.heap.objs.size], _, _, _, hsz ▸ wk_ascii s.heap.objs.size x t, ⟨_, Heap.get?_push_size _ rfl, rfl, rfl⟩, ?_, ?_, ?_, ?_⟩
    · intro b hb; rw [List.mem_singleton.mp hb]; exact fresh_size _
    · intro b hb; rw [List.mem_singleton.mp hb]; exact ⟨_, Heap.get?_push_size _ rfl⟩
    · intro b hb hw; exact absurd hb hw
    · intro i v val h hv hp; exact sign _ _ _ _ _ hv hp

theorem ItOk.before {s₀ s₁ s₂ : Shared} {vs : List V} {ds : List Nat} {I : Addr} {nw : Bool} (k : Kp (FZ A Sys) s₀ s₁) (x : ItOk G A H Sys s₁ s₂ vs ds I nw) : ItOk G A H Sys s₀ s₂ vs ds I nw := by
  obtain ⟨fp, wr, P, Mi, Si, h1, h2, h3, h4, h5, h6⟩ := x.ex
  exact ⟨fp, wr, P, Mi, Si, h1, h2, fun b hb => fresh_keeps k (h3 b hb), h4, h5, h6⟩

theorem si_seq {e : E} {x : Expr} (he : SE G d c e x) : SI G d c (.seq e) x := by
  intro A env lay Sys base st s F Q X K E hW hK hX
  simp only [wi_0, wi_1, wi_2, wi_3, wi_4, wi_5, wi_6, wi_7, rg1, rg2, rg3] at hW
  refine (he F).weak _ X _ E hW (fun v a s₁ h₁ r₁ k₁ _ => ?_) hX
  have F₁ := F.keeps k₁
  split at h₁
  · rename_i vs hv
    have fin : ∀ I s', Kp (FZ A Sys) s₁ s' → ItOk G A st.H Sys s₁ s' vs (depsV v) I false → K (.ref I) s' := fun I s' k i => hK vs _ I s' h₁ (k₁.trans k) (i.before k₁)
    cases r₁ with
    | lst b1 b2 b3 b4 => simp [iv_none, iv_bool, iv_int, iv_str, iv_tup, iv_lst, iv_ref, iv_inst, iv_iref, iv_exc, iv_dct] at hv; subst hv; exact it_list F₁ b2 b4 (.inl b1) fin
    | tup b1 b2 b3 b4 => simp [iv_none, iv_bool, iv_int, iv_str, iv_tup, iv_lst, iv_ref, iv_inst, iv_iref, iv_exc, iv_dct] at hv; subst hv; exact it_tup F₁ b2 b4 (.inl b1) fin
    | str u t o => simp [iv_none, iv_bool, iv_int, iv_str, iv_tup, iv_lst, iv_ref, iv_inst, iv_iref, iv_exc, iv_dct] at hv; subst hv; exact it_str F₁ o fin
    | ref ad =>
      simp only [iv_none, iv_bool, iv_int, iv_str, iv_tup, iv_lst, iv_ref, iv_inst, iv_iref, iv_exc, iv_dct] at hv
      split at hv
      · rename_i ws hw
        cases hv
        cases F₁.sim.objs _ _ hw with
        | list b1 b2 b3 => exact it_list F₁ b1 b3 (.inr ⟨by simp [dv_none, dv_bool, dv_int, dv_str, dv_tup, dv_lst, dv_ref, dv_inst, dv_iref, dv_exc, dv_dct], by rw [hw]; simp⟩) fin
      · cases hv
    | _ => simp [iv_none, iv_bool, iv_int, iv_str, iv_tup, iv_lst, iv_ref, iv_inst, iv_iref, iv_exc, iv_dct] at hv
  · exact h₁.elim
end

end Mine
end

section
set_option autoImplicit false
namespace Mine
open PySem

section
variable {G : PG} {d : Nat} {c : Sc} {A : Around} {env : Env} {lay : Nat → Option Place} {Sys : Addr → Prop} {base : Heap} {st : St} {s : Shared} {H : AH}

theorem rng1_inv {vs : List V} {P : Int → Prop} (h : rng1 vs P) : ∃ i, vs = [.int i] ∧ smallI i ∧ P i := by
  rcases vs with _ | ⟨a, _ | ⟨b, r⟩⟩
  · exact False.elim h
  · obtain ⟨i, rfl, h⟩ := intP_inv h
    exact ⟨_, rfl, h⟩
  · exact False.elim h
theorem upL_length (a b : Int) : (upL a b).length = (b - a).toNat := by simp [upL]
theorem upL_get {a b : Int} {i : Nat} {v : V} (h : (upL a b)[i]? = some v) : v = .int (a + i) := by
  simp only [upL, List.getElem?_map, Option.map_eq_some_iff] at h
  obtain ⟨k, hk, rfl⟩ := h
  have := List.getElem?_eq_some_iff.mp hk
  obtain ⟨h1, h2⟩ := this
  simp at h2; rw [h2]
theorem it_range {r : Addr} {a b e : Int} {t u v : Tok} {n : Nat} {vs : List V} {K E : Value → Shared → Prop} (F : Fx G d c A env lay Sys base st s) (hr : IsRange s.heap r a b e t u v) (hs : Builtin.Range.small a b e = true)
    (hn : Builtin.Range.rangeSize a b e = (n : Int)) (hvn : vs.length = n) (hv : ∀ (i : Nat) (v : V), vs[i]? = some v → v = V.int (a + i * e))
    (hK : ∀ I s', Kp (FZ A Sys) s s' → ItOk G A st.H Sys s s' vs [] I false → K (.ref I) s') : wpAny (model G.prog G.w) A (pyIter (.ref r)) K E s := by
  refine wpAny_pyIter_range hr hs (hK _ _ (Kp.ofH (HK.push _ _)) ⟨?_⟩)
  refine ⟨[s.heap.objs.size], [s.heap.objs.size], _, _, _, hvn ▸ wk_range s.heap.objs.size a e n, ?_, ?_, ?_, ?_, ?_⟩
  · show Heap.get? (Heap.push _ _) _ = _
    rw [hn]
    have := Heap.get?_push_size (o := { cls := .type "range_iterator", data := .fields #[rawInt a, rawInt (n : Int), rawInt e] }) s.heap rfl
    simpa [hvn] using this
  · intro b hb; rw [List.mem_singleton.mp hb]; exact fresh_size _
  · intro b hb; rw [List.mem_singleton.mp hb]; exact ⟨_, Heap.get?_push_size _ rfl⟩
  · intro b hb hw; exact absurd hb hw
  · rintro i v val h hv' ⟨tk, rfl⟩
    rw [hv i v hv']; exact .int _ _

theorem si_range1 {e : E} {y : Str} {p pos : Pos} {z : Expr} (hg : isGlob c y "range" = true) (hz : noStar z = true) (he : SE G d c e z) : SI G d c (.range1 e) (.Call (.Name y p) [z] [] pos) := by
  intro A env lay Sys base st s F Q X K E hW hK hX
  refine (ev_call_t (es := .cons e .nil) (X := X) (Q := fun vs => rng1 vs fun i => Q (upL 0 i) []) F hg (by decide) rfl (ses_cons hz he ses_nil) hW ?_ hX)
  · intro vs vals s₁ q r k
    obtain ⟨i, rfl, ⟨h1, h2⟩, h₁⟩ := rng1_inv q
    cases r with
    | cons r1 r2 =>
      cases r2; cases r1; rename_i tt
      refine call_range_1 ?_
      have k' := Kp.of (Z := FZ A Sys) (s := s₁) (t := s₁.toks + 1 + 1) (HK.push s₁.heap { cls := .type "range", data := .fields #[.int 0 s₁.toks, .int i tt, .int 1 (s₁.toks + 1)] })
      have F₁ := (F.keeps k).keeps k'
      refine it_range (n := i.toNat) F₁ (IsRange.new ..) (small_one (by decide) (by decide) h1 h2) ?_ (by rw [upL_length]; simp) (fun j v hv => by rw [upL_get hv]; simp) fun I s' k'' it => hK _ _ I s' h₁ ((k.trans k').trans k'') (it.before (k.trans k'))
      rw [rangeSize_one]; split <;> omega

end

end Mine
end

section
set_option autoImplicit false
namespace Mine
open PySem
section
variable {G : PG} {d : Nat} {c : Sc}
end
end Mine
end

section
set_option autoImplicit false
namespace Mine
open PySem

section
variable {prog : Program} {w : World} {A : Around} {E : Value → Shared → Prop} {s : Shared}

end
/-! enumerate -/
section
variable {G : PG} {d : Nat} {c : Sc}
end
end Mine
end

section
set_option autoImplicit false
namespace Mine
open PySem

section
variable {prog : Program} {w : World} {A : Around} {E : Value → Shared → Prop} {s : Shared} {b1 b2 : Bool} {l1 l2 : Addr} {xs ys : Array Value} {n1 n2 : Nat} {N : Addr} {k : Nat}

end

section
variable {G : PG} {d : Nat} {c : Sc}
end
end Mine
end

section
set_option autoImplicit false
namespace Mine
open PySem PySem.NumText

noncomputable def one1 : List V → (V → Prop) → Prop
  | [u], P => P u
  | _, _ => False
theorem one1_inv {vs : List V} {P : V → Prop} (h : one1 vs P) : ∃ u, vs = [u] ∧ P u := by
  rcases vs with _ | ⟨a, _ | ⟨b, r⟩⟩
  · exact False.elim h
  · exact ⟨_, rfl, h⟩
  · exact False.elim h
/-! int(..) of figures -/
theorem tx_seen {x : Str} {n : Int} {v : Value} {M : Model} {A : Around} {E : Value → Shared → Prop} {s : Shared} {Q : Value → Shared → Prop} (hl : x.length ≤ 100) (hn : intText? x = some n) (h : Q (.int n s.toks) { s with toks := s.toks + 1 }) :
    wpAny M A ((int_private% "intFromText") v (numTextOf x) 10) Q E s := by
  have hs : (numSeenOf x).length ≤ 640 := Nat.le_trans (seen_length x) (Nat.le_trans hl (by decide))
  obtain ⟨e, hr⟩ : ((numSeenOf x).length == (numTextOf x).length) = true ∧ (int_private% "readNumeral") 0 10 (numSeenOf x) = (int_private% "Numeral.value") n := by
    rcases read0 x hs with ⟨m, h1, h2, h3⟩ | ⟨h1, _⟩
    · rw [hn] at h1; cases h1; exact ⟨h2, h3⟩
    · rw [hn] at h1; cases h1
  wp_delta
  refine wpAny_ite_true (decide_eq_true hs) (wpAny_bind (wpAny_pure ?_))
  dsimp only
  rw [hr]
  exact wpAny_ite_true (decide_eq_true e) (wpAny_mkInt h)
theorem str_noint : typeLookup (.type "str") "__int__" = pure none := by rw [typeLookup_type, builtinLookup_eq_fast]; kernel_rfl
theorem str_noidx : typeLookup (.type "str") "__index__" = pure none := by rw [typeLookup_type, builtinLookup_eq_fast]; kernel_rfl
theorem str_notrunc : typeLookup (.type "str") "__trunc__" = pure none := by rw [typeLookup_type, builtinLookup_eq_fast]; kernel_rfl
set_option maxRecDepth 100000 in
theorem tx_new {x : Str} {u : Tok} {n : Int} (hl : x.length ≤ 100) (hn : intText? x = some n) : Gives (Builtin.«int.__new__» ⟨[.type "int", .str x u], []⟩) (.int n) :=
  .of_wp fun M A E s Q h => by
    obtain ⟨hp, g, d, tk, os⟩ := s
    have f1 := F.conv_sub_int
    have f2 := F.madeHere_int
    have f3 := str_noint
    have f4 := str_noidx
    have f5 := str_notrunc
    have f6 : typeOf (.str x u) = pure (.type "str") := rfl
    have ht := fun (v : Value) (s : Shared) (Q : Value → Shared → Prop) => tx_seen (v := v) (M := M) (A := A) (E := E) (s := s) (Q := Q) hl hn
    clear hl hn
    repeat (any_goals (first
      | assumption
      | with_reducible refine ht _ _ _ ?_
      | wp_step))
    all_goals exact ⟨_, rfl, h⟩
theorem allDigits_eq {l : List Nat} (h : allDigits l = true) : AllDigits l := fun c hc => by
  unfold allDigits at h
  rw [List.all_eq_true] at h
  have := h c hc
  simpa using this
section
variable {G : PG} {d : Nat} {c : Sc} {A : Around} {env : Env} {lay : Nat → Option Place} {Sys : Addr → Prop} {base : Heap} {st : St} {s : Shared}

/-- a call of a type on one thing -/
theorem ev_one {n : String} {e : E} {z : Expr} {y : Str} {p pos : Pos} {Q : V → Prop} {X : String → Prop} {K E : Value → Shared → Prop} (F : Fx G d c A env lay Sys base st s) (hg : isGlob c y n = true) (hn : n ∈ bnames) (hv : bval n = .type n) (hz : noStar z = true) (he : SE G d c e z)
    (hW : WE (G.cx d) e st Q X) (hK : ∀ u va s', Q u → RV (NN st.H Sys) s'.heap u va → Kp (FZ A Sys) s s' → wpAny (model G.prog G.w) A (call (.type n) [va]) K E s') (hX : ∀ e s', Rz G.mg A Sys s X e s' → E e s') :
    wpAny (model G.prog G.w) A (eval (.Call (.Name y p) [z] [] pos) env) K E s := by
  refine ev_call_t (es := .cons e .nil) (X := X) (Q := fun vs => one1 vs Q) F hg hn hv (ses_cons hz he ses_nil) hW ?_ hX
  intro vs vals s₁ h₁ r k
  obtain ⟨u, rfl, h₁⟩ := one1_inv h₁
  cases r with
  | cons r1 r2 => cases r2; exact hK u _ s₁ h₁ r1 k

theorem se_int {a : E} {y : Str} {z : Expr} {p pos : Pos} (F : Fx G d c A env lay Sys base st s) (hg : isGlob c y "int" = true) (hz : noStar z = true) (ha : SE G d c a z) :
    Snd G.prog G.w G.mg A (NN st.H Sys) Sys s false (eval (.Call (.Name y p) [z] [] pos) env) (WE (G.cx d) (.intOf a) st) := by
  intro Q X K E hW hK hX
  refine ev_one F hg (by decide) rfl hz ha hW (fun u va s₁ h₁ r k => ?_) hX
  cases r with
  | bool b => exact call_int_bool (hK _ _ _ h₁ (.int _ _) (k.trans (Kp.tok _ _)) nofun)
  | str x t ho =>
    obtain ⟨h1, h2, h3, h4⟩ := h₁
    have hn : x.cps.toList ≠ [] := fun q => by
      have : x.cps.toList.length = 0 := by rw [q]; rfl
      rw [Array.length_toList] at this
      exact Nat.ne_of_gt h2 this
    exact call_int_1 (tx_new (u := t) h3 (intText_digits (allDigits_eq h1) hn (Nat.le_trans h3 (by decide)))).meets ⟨rfl, hK _ _ _ h4 (.int _ _) (k.trans (Kp.tok _ _)) nofun⟩
  | _ => exact False.elim h₁
theorem se_str {a : E} {y : Str} {z : Expr} {p pos : Pos} (F : Fx G d c A env lay Sys base st s) (hg : isGlob c y "str" = true) (hz : noStar z = true) (ha : SE G d c a z) :
    Snd G.prog G.w G.mg A (NN st.H Sys) Sys s false (eval (.Call (.Name y p) [z] [] pos) env) (WE (G.cx d) (.strOf a) st) := by
  intro Q X K E hW hK hX
  refine ev_one F hg (by decide) rfl hz ha hW (fun u va s₁ h₁ r k => ?_) hX
  obtain ⟨i, rfl, h1, h2⟩ := intP_inv h₁
  cases r with
  | int _ t =>
    have hlog : i.natAbs.log2 < 1920 := by
      by_cases h0 : i.natAbs = 0
      · rw [h0]; decide
      · exact Nat.lt_of_lt_of_le ((Nat.log2_lt h0).mpr h1) (by decide)
    refine P.str_of_int hlog (hK _ _ _ h2 (.str _ _ ⟨int_text_fits hlog, fun c hc => ?_⟩) (k.trans (Kp.tok _ _)) nofun)
    have hc : c ∈ (Str.ofString (toString i)).cps.toList := hc
    rw [Str.ofString_eq_toList] at hc
    simp only [List.mem_map] at hc
    obtain ⟨ch, _, rfl⟩ := hc
    rcases ch.valid with h | ⟨_, h⟩
    · exact Nat.lt_trans h (by decide)
    · exact h
theorem se_tupOf {a : E} {y : Str} {z : Expr} {p pos : Pos} (F : Fx G d c A env lay Sys base st s) (hg : isGlob c y "tuple" = true) (hz : noStar z = true) (ha : SE G d c a z) :
    Snd G.prog G.w G.mg A (NN st.H Sys) Sys s false (eval (.Call (.Name y p) [z] [] pos) env) (WE (G.cx d) (.tupOf a) st) := by
  intro Q X K E hW hK hX
  refine ev_one F hg (by decide) rfl hz ha hW (fun u va s₁ h₁ r k => ?_) hX
  obtain ⟨vs, hv, h₁⟩ := seqP_inv h₁
  have F₁ := F.keeps k
  obtain ⟨a, xs, n, rfl, hl, hsz, rx⟩ := seqL_at F₁.sim.objs r hv
  refine call_tuple_list hl.isList (fun h' hk => ?_) hsz
  have kk : Kp (FZ A Sys) s₁ { s₁ with heap := h' } := Kp.ofH hk
  have F₂ := F₁.keeps kk
  exact hK _ _ _ h₁ (new_tup F₂.sim.objs F₂.sim.live (rx.keeps hk) hsz) ((k.trans kk).trans (Kp.ofH (HK.push _ _))) nofun
end
end Mine
end

section
set_option autoImplicit false
namespace Mine
open PySem

end Mine
end

section
set_option autoImplicit false
namespace Mine
open PySem

section
variable {G : PG} {d : Nat} {c : Sc} {A : Around} {env : Env} {lay : Nat → Option Place} {Sys : Addr → Prop} {base : Heap} {st : St} {s : Shared} {H : AH}

/-- list(..) of a thing to walk -/
noncomputable abbrev SL (G : PG) (d : Nat) (c : Sc) (it : It) (z : Expr) : Prop :=
  ∀ {A : Around} {env : Env} {lay : Nat → Option Place} {Sys : Addr → Prop} {base : Heap} {st : St} {s : Shared} {y : Str} {p pos : Pos}, Fx G d c A env lay Sys base st s → isGlob c y "list" = true → noStar z = true →
    Snd G.prog G.w G.mg A (NN st.H Sys) Sys s true (eval (.Call (.Name y p) [z] [] pos) env) (WE (G.cx d) (.listOf it) st)

theorem new_at {hsh : HFn} {h h' : Heap} {vs : List V} {xs : Array Value} {n : Nat} {a : Addr} (ho : HO hsh H Sys h) (hsys : ∀ a, Sys a → h.get? a ≠ none) (hf : h.get? a = none) (hl : IsL h' a xs n) (hz : xs.size ≤ sizeLine) (r : RVs (NN H Sys) h' vs xs.toList) :
    RV (NN H Sys) h' (.lst vs) (.ref a) := by
  refine .lst (fun q => ?_) hl hz r
  rcases q with q | q
  · cases e : H a with
    | none => exact q e
    | some o =>
      obtain ⟨ob, e'⟩ := (ho _ _ e).exists
      rw [hf] at e'; cases e'
  · exact hsys _ q hf

theorem RVs.of_get {N : Addr → Prop} {h : Heap} : ∀ {vs : List V} {xs : List Value}, vs.length = xs.length → (∀ (i : Nat) (v : V) (x : Value), vs[i]? = some v → xs[i]? = some x → RV N h v x) → RVs N h vs xs
  | [], [], _, _ => .nil
  | v :: vs, x :: xs, hl, hg => .cons (hg 0 v x rfl rfl) (RVs.of_get (by simpa using hl) fun i u y a b => hg (i + 1) u y (by simpa using a) (by simpa using b))
  | [], _ :: _, hl, _ => by simp at hl
  | _ :: _, [], hl, _ => by simp at hl

end

end Mine
end

section
set_option autoImplicit false
namespace Mine
open PySem
end Mine
end

section
set_option autoImplicit false
namespace Mine
open PySem

theorem cut_mem {α : Type} {xs : List α} {lo hi : Nat} {x : α} (h : x ∈ cutL xs lo hi) : x ∈ xs := List.mem_of_mem_drop (List.mem_of_mem_take h)
theorem cut_len {α : Type} (xs : List α) (lo hi : Nat) : (cutL xs lo hi).length ≤ xs.length := by simp [cutL]; omega
theorem RVs.cut {N : Addr → Prop} {h : Heap} {vs : List V} {xs : List Value} (r : RVs N h vs xs) (lo hi : Nat) : RVs N h (cutL vs lo hi) (cutL xs lo hi) := by
  have hl := r.length
  refine RVs.of_get (by simp [cutL, hl]) fun i v x hv hx => ?_
  simp only [cutL, List.getElem?_take, List.getElem?_drop] at hv hx
  split at hv
  · rename_i hlt
    rw [if_pos hlt] at hx
    obtain ⟨x', e, rx⟩ := r.get _ hv
    rw [hx] at e; cases e; exact rx
  · cases hv

theorem bnd_part {N : Addr → Prop} {h : Heap} {n e : Nat} {v : V} {x : Value} {k : Nat} (r : RV N h v x) (hb : bnd n e v = some k) : ∃ o : Option Int, IsPart x o ∧ k = o.elim e (clipAt n) ∧ ∃ l : Option (Int × Tok), x = partValue l ∧ l.map (·.1) = o := by
  cases r <;> simp [bn_none, bn_int, bn_bool, bn_str, bn_tup, bn_lst, bn_ref, bn_inst, bn_iref, bn_exc, bn_dct] at hb
  · exact ⟨none, .none, hb.symm, none, rfl, rfl⟩
  · rename_i i t
    exact ⟨some i, .int i t, hb.symm, some (i, t), rfl, rfl⟩

theorem strIdx (lo hi : Option Int) (n : Nat) : Builtin.Str.strSliceIndices lo hi 1 n = sliceRange ((lo.elim 0 (clipAt n) : Nat) : Int) ((hi.elim n (clipAt n) : Nat) : Int) 1 := by
  unfold Builtin.Str.strSliceIndices
  cases lo <;> cases hi <;> simp [clipAt_cast]

section
variable {G : PG} {d : Nat} {c : Sc} {A : Around} {env : Env} {lay : Nat → Option Place} {Sys : Addr → Prop} {base : Heap} {st : St} {s : Shared} {H : AH}

/-- a bound of a cut: written, or none -/
noncomputable abbrev SP (G : PG) (d : Nat) (c : Sc) (e : E) (x : Option Expr) : Prop := match x with
  | some x => SE G d c e x
  | none => e = .none

theorem sp_eval {e : E} {x : Option Expr} {Q : V → Prop} {X : String → Prop} {K E : Value → Shared → Prop} (h : SP G d c e x) (F : Fx G d c A env lay Sys base st s) (hW : WE (G.cx d) e st Q X)
    (hK : ∀ v val s', Q v → RV (NN st.H Sys) s'.heap v val → Kp (FZ A Sys) s s' → K val s') (hX : ∀ e s', Rz G.mg A Sys s X e s' → E e s') : wpAny (model G.prog G.w) A (evalPart x env) K E s := by
  cases x with
  | none =>
    have h : e = .none := h
    subst h
    rw [evalPart_none]
    exact wpAny_pure (hK _ _ _ (by simpa [we_0, we_1, we_2, we_3, we_4, we_5, we_6, we_7, we_8, we_9, we_10, we_11, we_12, we_13, we_14, we_15, we_16, we_17, we_18, we_19, we_20, we_21, we_22, we_23, we_24, we_25, we_26, we_27, we_28, we_29, we_30, we_31, we_32, we_33, we_34, we_35, we_36, we_37] using hW) .none (Kp.refl s))
  | some x =>
    rw [evalPart_some]
    exact (show SE G d c e x from h) F |>.weak _ X _ E hW (fun v val s' q r k _ => hK v val s' q r k) hX

theorem prim_slice {value : Expr} {lower upper : Option Expr} {p : Pos} {u lv hv : V} {a l h : Value} {Q : V → Prop} {K E : Value → Shared → Prop} (F : Fx G d c A env lay Sys base st s) (hW : sliceV st.H u lv hv Q)
    (ra : RV (NN st.H Sys) s.heap u a) (rl : RV (NN st.H Sys) s.heap lv l) (rh : RV (NN st.H Sys) s.heap hv h)
    (hK : ∀ r val s', Q r → RV (NN st.H Sys) s'.heap r val → Kp (FZ A Sys) s s' → K val s') :
    wpAny (model G.prog G.w) A (PyProof.Rows.subscriptTail value (.Slice lower upper none p) a (.ref s.heap.objs.size)) K E { s with heap := s.heap.push { cls := .type "slice", data := .fields #[l, h, .none] } } := by
  have k1 : Kp (FZ A Sys) s { s with heap := s.heap.push { cls := .type "slice", data := .fields #[l, h, .none] } } := Kp.ofH (HK.push _ _)
  have F₁ := F.keeps k1
  unfold sliceV at hW
  split at hW
  · rename_i x
    cases ra with
    | str _ t hx =>
      split at hW
      · rename_i i j hi hj
        obtain ⟨oi, pi, ei, li, vi, mi⟩ := bnd_part rl hi
        obtain ⟨oj, pj, ej, lj, vj, mj⟩ := bnd_part rh hj
        subst vi vj
        refine PyProof.Rows.tail_any (typeIs_str _ x t) PySem.F.slot_str_getitem.lookup (wpAny_getItem_str_slice (l := li) (u := lj) (st := none) ⟨_, Heap.get?_push_size _ rfl, rfl, rfl⟩ rfl ?_) rfl
        have hpick : slicePicked x li lj none = (List.range (j - i)).map (i + ·) := by
          unfold slicePicked
          rw [mi, mj]
          show Builtin.Str.strSliceIndices oi oj 1 x.length = _
          rw [strIdx, ← ei, ← ej, sliceRange_one]
        have hcut : (slicePicked x li lj none).filterMap (x.cps[·]?) = cutL x.cps.toList i j := by rw [hpick, pick_run]; rfl
        have hok : SOk ⟨(cutL x.cps.toList i j).toArray⟩ := hx.sub (by have := cut_len x.cps.toList i j; simpa [Str.length] using this) fun c hc => cut_mem hc
        unfold sliceMade
        split
        · rename_i hw
          have hlen : (slicePicked x li lj none).length = x.length := by simpa using hw
          have hwhole : cutL x.cps.toList i j = x.cps.toList := by
            have h1 : j - i = x.cps.size := by rw [hpick] at hlen; simpa [Str.length] using hlen
            have hj' : j ≤ x.cps.size := by
              rw [ej]
              cases oj with
              | none => exact Nat.le_refl _
              | some z => show clipAt x.cps.size z ≤ _; unfold clipAt; omega
            have h0 : x.cps.size = 0 ∨ i = 0 := by omega
            have : x.cps.toList.length = x.cps.size := Array.length_toList
            rcases h0 with h0 | h0
            · have : x.cps.toList = [] := List.eq_nil_of_length_eq_zero (by omega)
              rw [this]; simp [cutL]
            · subst h0
              simp only [cutL, List.drop_zero]
              exact List.take_of_length_le (by omega)
          rw [hwhole] at hW
          exact hK _ _ _ hW (.str _ _ hx) k1
        · refine ⟨?_, ?_⟩
          · rw [hcut]; exact hok.1
          · rw [hcut]
            exact hK _ _ _ hW (.str _ _ hok) (k1.trans (Kp.tok _ _))
      · exact hW.elim
  · split at hW
    · rename_i vs hvs
      split at hW
      · rename_i i j hi hj
        obtain ⟨oi, pi, ei, _⟩ := bnd_part rl hi
        obtain ⟨oj, pj, ej, _⟩ := bnd_part rh hj
        obtain ⟨ad, xs, n, rfl, hl, hz, rx⟩ := seqL_at F.sim.objs ra hvs
        have hsz := rx.size
        have hl1 := hl.isList.push { cls := .type "slice", data := .fields #[l, h, .none] }
        refine PyProof.Rows.tail_any hl1.typeIs slot_list_getitem.lookup (wpAny_getItem_list_slice hl1 (Heap.IsSliceOf.new ..) pi pj .none (by simp) ?_ hz) rfl
        have hpick : slicePick xs oi oj none = (cutL xs.toList i j).toArray := by
          rw [slicePick_plain, ei, ej, hsz]; rfl
        rw [hpick]
        exact hK _ _ _ hW (new_lst F₁.sim.objs F₁.sim.live (by simpa using (rx.kz k1.hw).cut i j) (by have := cut_len xs.toList i j; simp at this ⊢; omega)) (k1.trans (Kp.ofH (HK.push _ _)))
      · exact hW.elim
    · exact hW.elim

theorem se_slice {a lo hi : E} {y : Expr} {lower upper : Option Expr} {p pos : Pos} (F : Fx G d c A env lay Sys base st s) (ha : SE G d c a y) (hl : SP G d c lo lower) (hh : SP G d c hi upper) :
    Snd G.prog G.w G.mg A (NN st.H Sys) Sys s false (eval (.Subscript y (.Slice lower upper none p) pos) env) (WE (G.cx d) (.slice a lo hi) st) := by
  intro Q X K E hW hK hX
  simp only [we_0, we_1, we_2, we_3, we_4, we_5, we_6, we_7, we_8, we_9, we_10, we_11, we_12, we_13, we_14, we_15, we_16, we_17, we_18, we_19, we_20, we_21, we_22, we_23, we_24, we_25, we_26, we_27, we_28, we_29, we_30, we_31, we_32, we_33, we_34, we_35, we_36, we_37] at hW
  refine PyProof.Rows.Subscript_ ((ha F).weak _ X _ E hW (fun u va s₁ h₁ r₁ k₁ _ => ?_) hX)
  have F₁ := F.keeps k₁
  refine wpAny_Slice (sp_eval hl F₁ h₁ (fun lv l s₂ h₂ r₂ k₂ => ?_) fun e s' q => hX e s' (Rz.trans k₁ q))
  have F₂ := F₁.keeps k₂
  refine sp_eval hh F₂ h₂ (fun hv h s₃ h₃ r₃ k₃ => ?_) fun e s' q => hX e s' (Rz.trans (k₁.trans k₂) q)
  have F₃ := F₂.keeps k₃
  rw [evalPart_none]
  refine wpAny_pure ?_
  exact prim_slice F₃ h₃ (r₁.kz (k₂.trans k₃).hw) (r₂.kz k₃.hw) r₃ fun r val s' q rv k => hK r val s' q rv (((k₁.trans k₂).trans k₃).trans k) nofun

theorem strs_are {N : Addr → Prop} {h : Heap} : ∀ {vs : List V} {xs : List Value} {ys : List Str}, RVs N h vs xs → strsOf vs = some ys → PyProof.Rows.StrsAre xs ys ∧ ∀ y ∈ ys, SOk y
  | _, _, ys, .nil, e => by simp [so_nil, so_none, so_bool, so_int, so_str, so_tup, so_lst, so_ref, so_inst, so_iref, so_exc, so_dct] at e; subst e; exact ⟨.nil, by simp⟩
  | _, _, ys, .cons r1 r2, e => by
    cases r1 <;> simp [so_nil, so_none, so_bool, so_int, so_str, so_tup, so_lst, so_ref, so_inst, so_iref, so_exc, so_dct] at e
    rename_i s0 t0 ho
    obtain ⟨zs, e1, rfl⟩ := e
    obtain ⟨h1, h2⟩ := strs_are r2 e1
    exact ⟨.cons _ _ h1, by simp; exact ⟨ho, h2⟩⟩
theorem lenAll_eq : ∀ ys : List Str, lenAll ys = (ys.map (·.length)).sum
  | [] => rfl
  | y :: ys => by simp [la_nil, la_cons, lenAll_eq ys]

theorem join_mem {sep : Str} : ∀ {ys : List Str} {ch : Nat}, ch ∈ (Str.join sep ys).cps.toList → ch ∈ sep.cps.toList ∨ ∃ y ∈ ys, ch ∈ y.cps.toList
  | [], ch, h => by simp [Str.join, Str.empty] at h
  | [y], ch, h => .inr ⟨y, by simp, h⟩
  | y :: z :: r, ch, h => by
    have e : (Str.join sep (y :: z :: r)) = y ++ sep ++ Str.join sep (z :: r) := rfl
    rw [e] at h
    have e2 : (y ++ sep ++ Str.join sep (z :: r)).cps = y.cps ++ sep.cps ++ (Str.join sep (z :: r)).cps := rfl
    rw [e2] at h
    simp only [Array.toList_append, List.mem_append] at h
    rcases h with (h | h) | h
    · exact .inr ⟨y, by simp, h⟩
    · exact .inl h
    · rcases join_mem h with h | ⟨u, hu, h⟩
      · exact .inl h
      · exact .inr ⟨u, by simp at hu ⊢; exact .inr hu, h⟩

theorem se_join {a : E} {t : Str} {k : Nat} {z : Expr} {p ap pos : Pos} (F : Fx G d c A env lay Sys base st s) (hline : (ap.endLine == pos.line) = true) (ht : SOk t) (hz : noStar z = true) (ha : SE G d c a z) :
    Snd G.prog G.w G.mg A (NN st.H Sys) Sys s false (eval (.Call (.Attribute (.Constant (.str t) k p) (Str.ofString "join") ap) [z] [] pos) env) (WE (G.cx d) (.join (.str t) a) st) := by
  intro Q X K E hW hK hX
  simp only [we_0, we_1, we_2, we_3, we_4, we_5, we_6, we_7, we_8, we_9, we_10, we_11, we_12, we_13, we_14, we_15, we_16, we_17, we_18, we_19, we_20, we_21, we_22, we_23, we_24, we_25, we_26, we_27, we_28, we_29, we_30, we_31, we_32, we_33, we_34, we_35, we_36, we_37] at hW
  refine wpAny_Call_method (T := "str") (id := "str.join") rfl (by rw [starEach_cons hz]; rfl) hline PySem.F.plainAttrs_str PySem.F.slot_str_join PySem.F.type_str_join ?_
  refine wpAny_Constant_str ⟨typeIs_str _ _ _, nofun, ?_⟩
  have k₁ : Kp (FZ A Sys) s { s with toks := s.toks + 1 } := Kp.tok s _
  have F₁ := F.keeps k₁
  rw [starEach_cons hz]
  refine Calls.callWith_builtin rfl (Calls.evalArgs_plain (Calls.spliced_cons ((ha F₁).weak _ X _ E hW (fun v va s₂ h₂ r₂ k₂ _ => Calls.spliced_nil ?_) fun e s' q => hX e s' (Rz.trans k₁ q))))
  have F₂ := F₁.keeps k₂
  split at h₂
  · rename_i _ ss e1 e2
    cases e1
    simp only [Option.bind_eq_some_iff] at e2
    obtain ⟨vs, e3, e4⟩ := e2
    obtain ⟨ad, xs, n, rfl, hl, hsz, rx⟩ := seqL_at F₂.sim.objs r₂ e3
    obtain ⟨h1, h2⟩ := strs_are rx e4
    have hok : (ss.map (·.length)).sum + ss.length * t.length ≤ 16777216 := by
      rw [← lenAll_eq, Nat.mul_comm]; exact h₂.1
    refine PyProof.Rows.join_list hl.isList h1 hok fun t' tk => ?_
    have ej : Txt.join t ss = Str.join t ss := StrLaws.glued_eq_join t ss
    rw [ej]
    refine hK _ _ _ h₂.2 (.str _ _ ⟨?_, fun ch hc => ?_⟩) ((k₁.trans k₂).trans (Kp.tok _ _)) nofun
    · exact Nat.le_trans (StrLaws.join_length_le t ss) hok
    · rcases join_mem hc with h | ⟨y, hy, h⟩
      · exact ht.2 ch h
      · exact (h2 y hy).2 ch h
  · exact h₂.elim
end

section
variable {G : PG} {d : Nat} {c : Sc} {A : Around} {env : Env} {lay : Nat → Option Place} {Sys : Addr → Prop} {base : Heap} {st : St} {s : Shared}

end

section
variable {prog : Program} {w : World} {A : Around} {R : Result → Shared → Prop} {I : Addr} {fp wr : List Addr} {n : Nat} {P : Nat → Value → Prop} {St : Nat → Heap → Prop}

end

section
variable {prog : Program} {w : World} {A : Around} {E : Value → Shared → Prop} {s : Shared}

end

section
variable {G : PG} {d : Nat} {c : Sc} {A : Around} {env : Env} {lay : Nat → Option Place} {Sys : Addr → Prop} {base : Heap} {st : St} {s : Shared}

end

end Mine
end

section
set_option autoImplicit false
namespace Mine
open PySem

/-- only these places of the frame are turned -/
noncomputable def Tc (is : List Nat) (lay : Nat → Option Place) (h h' : Heap) : Prop := ∀ b o, (∀ i ∈ is, ∀ p, lay i = some p → b ≠ p.addr) → h.get? b = some o → h'.get? b = some o
noncomputable def Tg.idx : Tg → List Nat
  | .var i => [i]
  | .tup is => is

section
variable {prog : Program} {w : World} {A : Around} {E : Value → Shared → Prop} {hsh : HFn} {T : Heap → Prop} {lay : Nat → Option Place} {Sys Z : Addr → Prop} {base : Heap} {st : St} {s : Shared} {env : Env} {c : Sc}

theorem chkN_eq {i : Nat} {tg : Expr} (h : chkN c i tg = true) : ∃ x pos, tg = .Name x pos ∧ c.σ.lookup x = some i ∧ (c.names.lookup x = some .local ∨ c.names.lookup x = some .cell) := by
  replace h := onName_inv h; obtain ⟨x, pos, rfl, h⟩ := h
  simp only [Bool.and_eq_true, isVar, canStore, decide_eq_true_eq, Bool.or_eq_true] at h
  exact ⟨x, pos, rfl, h.1.1, h.2⟩

theorem st_one {M : Model} {i : Nat} {tg : Expr} {v : V} {val : Value} {Q : Unit → Shared → Prop} (O : EnvOk env c.names c.σ lay) (S : Sim hsh T lay Sys Z base st s.heap) (ht : chkN c i tg = true) (hi : i < st.ρ.length) (hr : RV (NN st.H Sys) s.heap v val)
    (hQ : ∀ h' tk, Sim hsh T lay Sys Z base { st with ρ := st.ρ.set i (some v) } h' → Tc [i] lay s.heap h' → Q () { s with heap := h', toks := tk }) : wpAny M A (assign tg env val) Q E s := by
  obtain ⟨x, pos, rfl, h1, h2⟩ := chkN_eq ht
  refine wpAny_assign_Name (st_var O S h1 hi (fun e => ?_) hr fun h' t p hp hs hsim => hQ h' t hsim fun b o nb e => (hs.2 b (nb i (by simp) p hp)).trans e)
  rcases h2 with h2 | h2
  · rw [O.lc x h2] at e; cases e
  · rw [O.ce x h2] at e; cases e

theorem setAll_len : ∀ {is : List Nat} {vs : List V} {ρ ρ' : List (Option V)}, setAll is vs ρ = some ρ' → is.length = vs.length ∧ ρ'.length = ρ.length
  | [], [], _, _, h => by simp [sa_nil, sa_cons, sa_l, sa_r] at h; subst h; exact ⟨rfl, rfl⟩
  | [], _ :: _, _, _, h => by simp [sa_nil, sa_cons, sa_l, sa_r] at h
  | _ :: _, [], _, _, h => by simp [sa_nil, sa_cons, sa_l, sa_r] at h
  | i :: is, v :: vs, ρ, ρ', h => by
    simp only [sa_nil, sa_cons, sa_l, sa_r] at h
    split at h
    · have := setAll_len h; simp at this ⊢; exact this
    · cases h
theorem bindT_len {t : Tg} {v : V} {ρ ρ' : List (Option V)} (h : bindT t v ρ = some ρ') : ρ'.length = ρ.length := by
  unfold bindT at h
  split at h
  · unfold putV at h
    split at h
    · cases h; simp
    · cases h
  · exact (setAll_len h).2
  · cases h

theorem st_tg {t : Tg} {tg : Expr} {v : V} {val : Value} {ρ' : List (Option V)} {Q : Unit → Shared → Prop} (hh : c.hot = false → A.handled = none) (O : EnvOk env c.names c.σ lay) (S : Sim hsh T lay Sys Z base st s.heap) (ht : chkTg c t tg = true) (hb : bindT t v st.ρ = some ρ')
    (hr : RV (NN st.H Sys) s.heap v val) (hQ : ∀ h' tk, Sim hsh T lay Sys Z base { st with ρ := ρ' } h' → Tc t.idx lay s.heap h' → Q () { s with heap := h', toks := tk }) : wpAny (model prog w) A (assign tg env val) Q E s := by
  cases t with
  | var i =>
    simp only [bd_var, bd_tup, bd_none, bd_bool, bd_int, bd_str, bd_lst, bd_ref, bd_inst, bd_iref, bd_exc, bd_dct] at hb
    split at hb
    · rename_i hi
      cases hb
      exact st_one O S ht hi hr hQ
    · cases hb
  | tup is => exact ff ht
end

/-- an inner frame: more things off limits -/
theorem Sim.enter {hsh : HFn} {T : Heap → Prop} {lay : Nat → Option Place} {Sys Z New : Addr → Prop} {base : Heap} {st : St} {h h' : Heap} (S : Sim hsh T lay Sys Z base st h) (k : HW Z h h') (hn : ∀ b, New b → h.get? b = none) (hn' : ∀ b, New b → h'.get? b ≠ none) :
    Sim hsh T lay (fun a => Sys a ∨ New a) Z base st h' where
  keep := S.keep.trans k
  zs := fun b q => .inl (S.zs b q)
  top := let ⟨b0, t, k0, n⟩ := S.top; ⟨b0, t, k0, fun a q => q.elim (fun q => q.elim (fun q => n a (.inl q)) fun q => (HW.of (Z := Sys) k0).ext (S.keep.ext (hn a q))) fun q => n a (.inr q)⟩
  vals := fun i v p a b => by
    obtain ⟨val, x, y⟩ := S.vals i v p a b
    refine ⟨val, x.kz k, y.gen (fun b q => ?_) fun b o nb e => (k b o e).1 fun q => nb (.inr (S.zs b q))⟩
    rcases q with q | q | q
    · exact .inl (.inl q)
    · exact .inl (.inr q)
    · exact .inr (hn b q)
  ok := fun i p a => (S.ok i p a).kz k
  inj := S.inj
  sys := fun i p a => ⟨.inl (S.sys i p a).1, (S.sys i p a).2⟩
  objs := fun a o e => (S.objs a o e).gen (fun b q => by
    rcases q with q | q | q
    · exact .inl (.inl q)
    · exact .inl (.inr q)
    · exact .inr (hn b q)) (fun b o nb e => (k b o e).1 fun q => nb (.inr (S.zs b q))) (fun o' e' => (k a o' e').1 fun q => by rw [S.dis a (S.zs a q)] at e; cases e)
  own := S.own
  live := fun a q e => by
    rcases q with q | q
    · exact S.live a q (k.ext e)
    · exact hn' a q e
  ent := S.ent
  dis := fun a q => q.elim (S.dis a) fun q => S.fresh (hn a q)

theorem nodup_inj {α : Type} {l : List α} (h : l.Nodup) {i j : Nat} (hi : i < l.length) (hj : j < l.length) (e : l[i] = l[j]) : i = j := by
  have h' := List.pairwise_iff_getElem.mp h
  rcases Nat.lt_trichotomy i j with h1 | h1 | h1
  · exact absurd e (h' i j hi hj h1)
  · exact h1
  · exact absurd e.symm (h' j i hj hi h1)

/-- the comprehension's own places -/
noncomputable def layC (used : Nat) (C : Addr) (xs : List Str) (lay : Nat → Option Place) : Nat → Option Place := fun i => if i < used then lay i else (xs[i - used]?).map (Place.loc C)

noncomputable def wipe (used : Nat) : List (Option V) → List (Option V) := fun ρ => ρ.take used ++ List.replicate (ρ.length - used) none
theorem wipe_length (u : Nat) (ρ : List (Option V)) : (wipe u ρ).length = ρ.length := by simp [wipe]; omega
theorem wipe_get {u i : Nat} {ρ : List (Option V)} {v : V} (h : (wipe u ρ)[i]? = some (some v)) : i < u ∧ ρ[i]? = some (some v) := by
  unfold wipe at h
  rw [List.getElem?_append] at h
  split at h
  · rename_i hi
    simp at hi
    rw [List.getElem?_take, if_pos (by omega)] at h
    exact ⟨by omega, h⟩
  · rw [List.getElem?_replicate] at h
    split at h <;> simp at h

theorem Sim.comp {hsh : HFn} {T : Heap → Prop} {lay : Nat → Option Place} {Sys Z : Addr → Prop} {base : Heap} {st : St} {h : Heap} {used : Nat} {C : Addr} {xs : List Str} {m : Str → Option Value} (S : Sim hsh T lay Sys Z base st h) (hus : ∀ i p, lay i = some p → i < used)
    (hC : Sys C) (hCl : ∀ i p, lay i = some p → p.addr ≠ C) (hb : base.get? C = none) (hH : st.H C = none) (hm : h.Ns C m) (hnd : xs.Nodup) : Sim hsh T (layC used C xs lay) Sys Z base { st with ρ := wipe used st.ρ } h where
  keep := S.keep
  zs := S.zs
  top := S.top
  vals := fun i v p a b => by
    obtain ⟨h1, h2⟩ := wipe_get a
    simp only [layC, if_pos h1] at b
    exact S.vals i v p h2 b
  ok := fun i p a => by
    simp only [layC] at a
    split at a
    · exact S.ok i p a
    · simp only [Option.map_eq_some_iff] at a
      obtain ⟨x, _, rfl⟩ := a
      exact ⟨m, hm⟩
  inj := fun i j p a b => by
    simp only [layC] at a b
    split at a <;> split at b
    · exact S.inj i j p a b
    · simp only [Option.map_eq_some_iff] at b
      obtain ⟨x, _, rfl⟩ := b
      exact absurd rfl (hCl i _ a)
    · simp only [Option.map_eq_some_iff] at a
      obtain ⟨x, _, rfl⟩ := a
      exact absurd rfl (hCl j _ b)
    · simp only [Option.map_eq_some_iff] at a b
      obtain ⟨x, ha, rfl⟩ := a
      obtain ⟨y, hb', e⟩ := b
      cases e
      obtain ⟨l1, e1⟩ := List.getElem?_eq_some_iff.mp ha
      obtain ⟨l2, e2⟩ := List.getElem?_eq_some_iff.mp hb'
      have : i - used = j - used := nodup_inj hnd l1 l2 (e1.trans e2.symm)
      omega
  sys := fun i p a => by
    simp only [layC] at a
    split at a
    · exact S.sys i p a
    · simp only [Option.map_eq_some_iff] at a
      obtain ⟨x, _, rfl⟩ := a
      exact ⟨hC, hb, hH⟩
  objs := S.objs
  own := S.own
  live := S.live
  ent := S.ent
  dis := S.dis

/-- forgetting what the comprehension's places hold -/
theorem Sim.forget {hsh : HFn} {T : Heap → Prop} {lay : Nat → Option Place} {Sys Z : Addr → Prop} {base : Heap} {st : St} {h : Heap} {ρ' : List (Option V)} (S : Sim hsh T lay Sys Z base st h) (hv : ∀ (i : Nat) (v : V) (p : Place), lay i = some p → ρ'[i]? = some (some v) → st.ρ[i]? = some (some v)) :
    Sim hsh T lay Sys Z base { st with ρ := ρ' } h where
  keep := S.keep
  zs := S.zs
  top := S.top
  vals := fun i v p a b => S.vals i v p (hv i v p b a) b
  ok := S.ok
  inj := S.inj
  sys := S.sys
  objs := S.objs
  own := S.own
  live := S.live
  ent := S.ent
  dis := S.dis

end Mine
end

section
set_option autoImplicit false
namespace Mine
open PySem

section
variable {prog : Program} {w : World} {A : Around} {E : Value → Shared → Prop} {R : Result → Shared → Prop} {s : Shared}

theorem compLoop_gen {elt target iter : Expr} {ifs : List Expr} {scope : Scope} {pos : Pos} {it acc : Value} {env : Env} (I : Nat → Shared → Prop)
    (turn : ∀ n s, I n s → wpAny (model prog w) A (pyNext it) (fun r s₁ => match r with
      | none => R (.ok .next) s₁
      | some v => wpAny (model prog w) A (letOwnedTupleGo target it v) (fun _ s₁' => wpAny (model prog w) A (assign target env v) (fun _ s₂ =>
          wpAny (model prog w) A (forIn ifs true fun c r => if r = true then do let ok ← isTrue c env (eval c env); pure (ForInStep.yield ok) else pure (ForInStep.yield r)) (fun ok s₃ =>
            if ok = true then wpAny (model prog w) A (eval elt env) (fun x s₄ =>
              wpAny (model prog w) A (call (.builtin "list.append") [acc, x]) (fun _ s₅ => ∃ m, m < n ∧ I m s₅) (notedBy (model prog w) A env fun e s' => R (.error e) s') s₄) (notedBy (model prog w) A env fun e s' => R (.error e) s') s₃
            else ∃ m, m < n ∧ I m s₃) (notedBy (model prog w) A env fun e s' => R (.error e) s') s₂) (notedBy (model prog w) A env fun e s' => R (.error e) s') s₁') (notedBy (model prog w) A env fun e s' => R (.error e) s') s₁) (notedBy (model prog w) A env fun e s' => R (.error e) s') s)
    (n : Nat) (h : I n s) : codeAny (model prog w) A (.compLoop (.ListComp elt [⟨target, iter, ifs, 0⟩] scope pos) 0 it acc env) R s := by
  refine codeAny_loop rfl I (fun n s hI => ?_) n h
  show wpAny _ A ((compTurn (.ListComp elt [⟨target, iter, ifs, 0⟩] scope pos) 0 it acc env).onRaise (fun x => do noteFrame x env; theTreesLotGoes x)) _ _ s
  refine wpAny_noted ?_
  rw [compTurn_list]
  refine wpAny_bind (wpAny_standAt (wpAny_bind (wpAny_mono (turn n s hI) (fun r s₁ h₁ => ?_) fun _ _ h' => h')))
  cases r with
  | none => exact wpAny_pure h₁
  | some v =>
    refine wpAny_bind (wpAny_mono h₁ (fun _ s₁' h₁' => ?_) fun _ _ h' => h')
    refine wpAny_bind (wpAny_mono h₁' (fun _ s₂ h₂ => wpAny_bind (wpAny_mono h₂ (fun ok s₃ h₃ => ?_) fun _ _ h' => h')) fun _ _ h' => h')
    cases ok with
    | false => exact wpAny_pure ⟨rfl, h₃⟩
    | true =>
      exact wpAny_bind (wpAny_bind (wpAny_mono h₃ (fun x s₄ h₄ => wpAny_bind (wpAny_mono h₄ (fun _ s₅ h₅ => wpAny_pure (wpAny_pure ⟨rfl, h₅⟩)) fun _ _ h' => h')) fun _ _ h' => h'))

theorem append_call {l : Addr} {items : Array Value} {n : Nat} {v : Value} {Q : Value → Shared → Prop} (hl : IsL s.heap l items n) (hz : items.size ≤ sizeLine)
    (h : Q .none { s with heap := s.heap.update l (Obj.mapSeq fun xs => xs.push v) }) : wpAny (model prog w) A (call (.builtin "list.append") [.ref l, v]) Q E s :=
  call_meets F.slot_list_append ⟨_, hl, rfl⟩ F.entry_list_append (F.args_list_append_2 _ _) (list_append l items n v hz) ⟨hl, h⟩
end

/-- what a comprehension's free names stand in -/
theorem closure_ok {scope : Scope} {env : Env} (h : ∀ p ∈ scope.names, p.2 = .free → ∃ a, env.cells.lookup p.1 = some a) :
    ∃ cl, closureFor scope env = pure cl ∧ ∀ p ∈ scope.names, p.2 = .free → ∃ a, cl.lookup p.1 = some a ∧ env.cells.lookup p.1 = some a := by
  have key : ∀ (names : List (Str × NameKind)) (acc : List (Str × Addr)), (∀ p ∈ names, p.2 = .free → ∃ a, env.cells.lookup p.1 = some a) → (∀ x a, acc.lookup x = some a → env.cells.lookup x = some a) →
      ∃ cl, (forIn names acc (fun (p : Str × NameKind) cs => do
        if p.2 == .free then
          let a ← cellOf env p.1
          pure (ForInStep.yield ((p.1, a) :: cs))
        else pure (ForInStep.yield cs)) : Sem (List (Str × Addr))) = pure cl ∧ (∀ x a, cl.lookup x = some a → env.cells.lookup x = some a) ∧ (∀ x, (acc.lookup x).isSome → (cl.lookup x).isSome) ∧ (∀ p ∈ names, p.2 = .free → (cl.lookup p.1).isSome) := by
    intro names
    induction names with
    | nil => intro acc _ ha; exact ⟨acc, rfl, ha, fun _ e => e, by simp⟩
    | cons p r ih =>
      intro acc hf ha
      obtain ⟨n, k⟩ := p
      by_cases hk : k = .free
      · subst hk
        obtain ⟨a, hc⟩ := hf (n, .free) (by simp) rfl
        obtain ⟨cl, e, h1, h2, h3⟩ := ih ((n, a) :: acc) (fun q hq => hf q (List.mem_cons_of_mem _ hq)) (fun x b hx => by
          simp only [List.lookup_cons] at hx
          split at hx
          · rename_i hxn
            have : x = n := by simpa using hxn
            subst this; cases hx; exact hc
          · exact ha x b hx)
        refine ⟨cl, ?_, h1, fun x hx => h2 x ?_, fun q hq hqf => ?_⟩
        · rw [List.forIn_cons]
          simp only [beq_self_eq_true, if_true, cellOf, hc, pure_bind]
          exact e
        · simp only [List.lookup_cons]; split
          · rfl
          · exact hx
        · rcases List.mem_cons.mp hq with rfl | hq
          · exact h2 n (by simp)
          · exact h3 q hq hqf
      · obtain ⟨cl, e, h1, h2, h3⟩ := ih acc (fun q hq => hf q (List.mem_cons_of_mem _ hq)) ha
        refine ⟨cl, ?_, h1, h2, fun q hq hqf => ?_⟩
        · rw [List.forIn_cons]
          have : (k == NameKind.free) = false := by simpa using hk
          simp only [this, Bool.false_eq_true, if_false, pure_bind]
          exact e
        · rcases List.mem_cons.mp hq with rfl | hq
          · exact absurd hqf hk
          · exact h3 q hq hqf
  obtain ⟨cl, e, h1, _, h3⟩ := key scope.names [] h (by simp)
  refine ⟨cl, ?_, fun p hp hf => ?_⟩
  · simp only [closureFor]
    exact (congrArg (· >>= _) e).trans rfl
  · have := h3 p hp hf
    cases hc : cl.lookup p.1 with
    | none => rw [hc] at this; cases this
    | some a => exact ⟨a, rfl, h1 _ _ hc⟩

noncomputable def rl (env : Env) (p : Str × NameKind) : Str × NameKind := (p.1, if (p.2 == .free && env.scope.kind == .function && env.kindOf p.1 == some .cell) then .cell else p.2)
theorem relabel_names (scope : Scope) (env : Env) : (relabel scope env).names = scope.names.map (rl env) := by
  simp only [relabel]
  refine List.map_congr_left fun p _ => ?_
  obtain ⟨n, k⟩ := p
  simp only [rl]
  split <;> rfl
theorem lookup_rl {env : Env} : ∀ {names : List (Str × NameKind)} {x : Str} {k : NameKind}, names.lookup x = some k → ∃ n, (x == n) = true ∧ (names.map (rl env)).lookup x = some (rl env (n, k)).2
  | [], _, _, h => by simp at h
  | (n, k') :: r, x, k, h => by
    rw [List.map_cons]
    have e : rl env (n, k') = (n, (rl env (n, k')).2) := rfl
    rw [e]
    simp only [List.lookup_cons] at h ⊢
    cases hx : x == n with
    | true => rw [hx] at h; simp only at h ⊢; cases h; exact ⟨n, hx, rfl⟩
    | false => rw [hx] at h; simp only at h ⊢; exact lookup_rl h
theorem lookup_relabel {scope : Scope} {env : Env} {x : Str} {k : NameKind} (h : scope.names.lookup x = some k) (hk : k ≠ .free) : (relabel scope env).names.lookup x = some k := by
  rw [relabel_names]
  obtain ⟨n, _, e⟩ := lookup_rl (env := env) h
  rw [e]
  have : (k == NameKind.free) = false := by simpa using hk
  simp [rl, this]
theorem lookup_relabel_free {scope : Scope} {env : Env} {x : Str} (h : scope.names.lookup x = some .free) : (relabel scope env).names.lookup x = some .cell ∨ (relabel scope env).names.lookup x = some .free := by
  rw [relabel_names]
  obtain ⟨n, _, e⟩ := lookup_rl (env := env) h
  rw [e]
  simp only [rl]
  split
  · exact .inl rfl
  · exact .inr rfl

end Mine
end

section
set_option autoImplicit false
namespace Mine
open PySem

theorem mem_lookup {β : Type} : ∀ {l : List (Str × β)} {x : Str} {k : β}, l.lookup x = some k → (x, k) ∈ l
  | [], _, _, h => by simp at h
  | (n, k') :: r, x, k, h => by
    simp only [List.lookup_cons] at h
    cases hx : x == n with
    | true =>
      rw [hx] at h; simp only at h; cases h
      have : x = n := by simpa using hx
      subst this; simp
    | false => rw [hx] at h; simp only at h; exact List.mem_cons_of_mem _ (mem_lookup h)

theorem lookup_zip : ∀ {xs : List Str} {u : Nat} {x : Str} {i : Nat}, (xs.zip (List.range' u xs.length)).lookup x = some i → ∃ j, xs[j]? = some x ∧ i = u + j
  | [], _, _, _, h => by simp at h
  | y :: ys, u, x, i, h => by
    simp only [List.length_cons, List.range'_succ, List.zip_cons_cons, List.lookup_cons] at h
    cases hx : x == y with
    | true =>
      rw [hx] at h; simp only at h; cases h
      have : x = y := by simpa using hx
      subst this; exact ⟨0, rfl, rfl⟩
    | false =>
      rw [hx] at h; simp only at h
      obtain ⟨j, h1, h2⟩ := lookup_zip h
      exact ⟨j + 1, by simpa using h1, by omega⟩
theorem lookup_filter {q : Str → Bool} : ∀ {l : List (Str × Nat)} {x : Str} {i : Nat}, (l.filter fun p => q p.1).lookup x = some i → q x = true ∧ l.lookup x = some i
  | [], _, _, h => by simp at h
  | (n, k) :: r, x, i, h => by
    rw [List.filter_cons] at h
    split at h
    · rename_i hq
      simp only [List.lookup_cons] at h ⊢
      cases hx : x == n with
      | true =>
        rw [hx] at h; simp only at h ⊢
        have : x = n := by simpa using hx
        subst this; exact ⟨hq, h⟩
      | false => rw [hx] at h; simp only at h ⊢; exact lookup_filter h
    · rename_i hq
      obtain ⟨h1, h2⟩ := lookup_filter h
      refine ⟨h1, ?_⟩
      simp only [List.lookup_cons]
      cases hx : x == n with
      | true =>
        have : x = n := by simpa using hx
        subst this; exact absurd h1 hq
      | false => exact h2

structure TableOk (c : Sc) (xs : List Str) (sc : Scope) : Prop where
  kind : sc.kind = .function
  loc : ∀ x ∈ xs, sc.names.lookup x = some .local
  nd : xs.Nodup
  names : ∀ p ∈ sc.names, (p.2 = .local) ∨ (p.2 = .free ∧ sc.names.lookup p.1 = some .free ∧ (∃ i, c.σ.lookup p.1 = some i) ∧ (c.names.lookup p.1 = some .cell ∨ c.names.lookup p.1 = some .free) ∧ (p.1 == ("__classdict__" : Str)) = false) ∨ p.2 = .globalImplicit
  nodup : (sc.names.map (·.1)).Nodup
  dead : c.dead = false
theorem tableOk_eq {c : Sc} {xs : List Str} {sc : Scope} (h : tableOk c xs sc = true) : TableOk c xs sc := by
  unfold tableOk at h
  simp only [Bool.and_eq_true, decide_eq_true_eq, List.all_eq_true] at h
  obtain ⟨⟨⟨⟨⟨h1, h2⟩, h3⟩, h4⟩, h5⟩, h6⟩ := h
  refine ⟨h1, fun x hx => (h2 x hx).1, h3, fun p hp => ?_, h5, by simpa using h6⟩
  have := h4 p hp
  split at this
  · rename_i e; exact .inl e
  · rename_i e
    simp only [Bool.and_eq_true, Bool.or_eq_true, decide_eq_true_eq, Bool.not_eq_true'] at this
    exact .inr (.inl ⟨e, this.1.1.1, Option.isSome_iff_exists.mp this.1.1.2, this.1.2, this.2⟩)
  · rename_i e; exact .inr (.inr e)
  · cases this
theorem nodup_lookup {β : Type} : ∀ {l : List (Str × β)} {p : Str × β}, (l.map (·.1)).Nodup → p ∈ l → l.lookup p.1 = some p.2
  | [], _, _, h => by simp at h
  | (n, k) :: r, p, hn, h => by
    simp only [List.map_cons, List.nodup_cons] at hn
    rcases List.mem_cons.mp h with rfl | h
    · simp
    · simp only [List.lookup_cons]
      cases hx : p.1 == n with
      | true =>
        have : p.1 = n := by simpa using hx
        exact absurd (this ▸ List.mem_map.mpr ⟨p, h, rfl⟩) hn.1
      | false => exact nodup_lookup hn.2 h

theorem env_comp {env : Env} {c : Sc} {lay : Nat → Option Place} {xs : List Str} {sc : Scope} {cl : List (Str × Addr)} {C : Addr} (O : EnvOk env c.names c.σ lay) (hus : ∀ i p, lay i = some p → i < c.used) (ht : TableOk c xs sc)
    (hcl : ∀ p ∈ sc.names, p.2 = .free → ∃ a, cl.lookup p.1 = some a ∧ env.cells.lookup p.1 = some a) : EnvOk (compEnvC sc cl C env) (inner c xs sc.names).names (inner c xs sc.names).σ (layC c.used C xs lay) where
  kind := ht.kind
  glob := O.glob
  blt := O.blt
  gl := fun x h => lookup_relabel h (by simp)
  lc := fun x h => lookup_relabel h (by simp)
  ce := fun x h => lookup_relabel h (by simp)
  fr := fun x h => lookup_relabel_free h
  vars := fun x i h => by
    have h : ((xs.zip (List.range' c.used xs.length)) ++ c.σ.filter (fun p => decide (sc.names.lookup p.1 = some .free))).lookup x = some i := h
    rw [List.lookup_append] at h
    cases hz : (xs.zip (List.range' c.used xs.length)).lookup x with
    | some j =>
      rw [hz] at h; simp at h; subst h
      obtain ⟨k, hk, rfl⟩ := lookup_zip hz
      refine ⟨.loc C x, ?_, .inl ⟨lookup_relabel (ht.loc x (List.mem_of_getElem? hk)) (by simp), rfl⟩⟩
      unfold layC
      rw [if_neg (by omega), show c.used + k - c.used = k by omega, hk]; rfl
    | none =>
      rw [hz] at h; simp only [Option.none_or] at h
      obtain ⟨hq, hσ⟩ := lookup_filter (q := fun y => decide (sc.names.lookup y = some .free)) h
      have hq : sc.names.lookup x = some .free := by simpa using hq
      have hm := mem_lookup hq
      obtain ⟨a, h1, h2⟩ := hcl _ hm rfl
      have hk : (x == ("__classdict__" : Str)) = false ∧ (env.kindOf x = some .cell ∨ env.kindOf x = some .free) := by
        rcases ht.names _ hm with e | ⟨_, _, _, e, e'⟩ | e
        · cases e
        · exact ⟨e', e.elim (fun q => .inl (O.ce x q)) (O.fr x)⟩
        · cases e
      obtain ⟨p, hp, hc⟩ := O.vars x i hσ
      have hlt := hus i p hp
      rcases hc with ⟨hl, _⟩ | ⟨_, _, c', hc', rfl⟩
      · rcases hk.2 with q | q <;> rw [hl] at q <;> cases q
      · rw [h2] at hc'; cases hc'
        exact ⟨.cell a, by unfold layC; rw [if_pos hlt]; exact hp, .inr ⟨lookup_relabel_free hq, hk.1, a, h1, rfl⟩⟩

theorem bindT_agree {t : Tg} {u : Nat} {xs : List Str} {v : V} {ρ ρ₁ ρ' ρ₁' : List (Option V)} (ht : tgIs u t xs = true) (hl : ρ.length = ρ₁.length) (hag : ∀ i, i < u → ρ[i]? = ρ₁[i]?) (hb : bindT t v ρ = some ρ') (hb₁ : bindT t v ρ₁ = some ρ₁') :
    ∀ i, i < u + xs.length → ρ'[i]? = ρ₁'[i]? := by
  intro i hi
  cases t with
  | var iv =>
    obtain ⟨k1, k2⟩ := (Bool.and_eq_true _ _).mp ht
    rw [eq_of_beq k1] at hb hb₁
    rw [eq_of_beq k2] at hi
    simp only [bd_var, bd_tup, bd_none, bd_bool, bd_int, bd_str, bd_lst, bd_ref, bd_inst, bd_iref, bd_exc, bd_dct] at hb hb₁
    split at hb
    · rename_i h1
      rw [if_pos (by omega)] at hb₁
      cases hb; cases hb₁
      by_cases e : i = u
      · subst e; rw [List.getElem?_set_self h1, List.getElem?_set_self (by omega)]
      · rw [List.getElem?_set_ne (Ne.symm e), List.getElem?_set_ne (Ne.symm e)]; exact hag i (by omega)
    · cases hb
  | tup is => exact ff ht
theorem bindT_ok {t : Tg} {u : Nat} {xs : List Str} {v : V} {ρ ρ₁ ρ' : List (Option V)} (ht : tgIs u t xs = true) (hl : ρ.length = ρ₁.length) (hb : bindT t v ρ = some ρ') : ∃ ρ₁', bindT t v ρ₁ = some ρ₁' := by
  cases t with
  | var i =>
    simp only [bd_var, bd_tup, bd_none, bd_bool, bd_int, bd_str, bd_lst, bd_ref, bd_inst, bd_iref, bd_exc, bd_dct] at hb ⊢
    split at hb
    · rw [if_pos (by omega)]; exact ⟨_, rfl⟩
    · cases hb
  | tup is => exact ff ht
theorem wipe_lo {u i : Nat} {ρ : List (Option V)} (h : i < u) : (wipe u ρ)[i]? = ρ[i]? := by
  unfold wipe
  rcases Nat.lt_or_ge i ρ.length with hi | hi
  · rw [List.getElem?_append_left (by simp; omega), List.getElem?_take, if_pos h]
  · rw [List.getElem?_eq_none hi, List.getElem?_eq_none (by simp; omega)]

end Mine
end

section
set_option autoImplicit false
namespace Mine
open PySem

theorem lookup_zip_some {β : Type} : ∀ {names : List Str} {vals : List β} {x : Str}, names.length = vals.length → x ∈ names → ((names.zip vals).lookup x).isSome
  | [], _, _, _, h => by simp at h
  | _ :: _, [], _, hl, _ => by simp at hl
  | n :: ns, v :: vs, x, hl, h => by
    simp only [List.zip_cons_cons, List.lookup_cons]
    cases hx : x == n with
    | true => rfl
    | false =>
      have hne : x ≠ n := by simpa using hx
      exact lookup_zip_some (by simpa using hl) ((List.mem_cons.mp h).resolve_left hne)

theorem fm_zip {β : Type} : ∀ {names : List Str} {vals : List β}, names.length = vals.length → names.Nodup → names.filterMap (fun n => ((names.zip vals).lookup n).map (fun v => (n, v))) = names.zip vals := by
  have key : ∀ (names : List Str) (vals : List β) (full : List (Str × β)), names.length = vals.length → names.Nodup → (∀ n v, (n, v) ∈ names.zip vals → full.lookup n = some v) → names.filterMap (fun n => (full.lookup n).map (fun v => (n, v))) = names.zip vals := by
    intro names
    induction names with
    | nil => intro vals full hl _ _; rfl
    | cons n ns ih =>
      intro vals full hl hn hf
      cases vals with
      | nil => simp at hl
      | cons v vs =>
        rw [List.nodup_cons] at hn
        rw [List.filterMap_cons, hf n v (by simp)]
        simp only [Option.map_some, List.zip_cons_cons]
        rw [ih vs full (by simpa using hl) hn.2 fun m w hm => hf m w (by simp [hm])]
  intro names vals hl hn
  refine key names vals _ hl hn fun n v hm => ?_
  have hnz : ((names.zip vals).map (·.1)).Nodup := by
    have e : (names.zip vals).map (·.1) = names := by rw [List.map_fst_zip]; omega
    rw [e]; exact hn
  exact nodup_lookup hnz hm

theorem bp_key {nm qn : Str} {ar : List Arg} {kd : List (Option Expr)} {df : List Expr} {body : FuncBody} {sc : Scope} {gl : Addr} {cl : List (Str × Addr)} {kdv doc pm : Value} {an : Option Addr} {code ct : Value} {bl : Addr} {vals : List Value}
   (h1 : (decide (vals.length > (ar.map Arg.arg).length) && true) = false) (h2 : ((((ar.map Arg.arg).take ((ar.map Arg.arg).length)).filter fun n => (((ar.map Arg.arg).zip vals).lookup n).isNone).isEmpty) = true) :
   bindArgs ⟨nm, qn, ⟨[], ar, none, [], kd, none, df⟩, body, sc, gl, cl, .none, kdv, doc, pm, an, code, ct, bl⟩ ⟨vals, []⟩ = pure ((ar.map Arg.arg ++ []).filterMap fun n => (((ar.map Arg.arg).zip vals).lookup n).map (n, ·)) := by
  have hd : ([] : List Value).drop (0 - (ar.map Arg.arg).length) = [] := List.drop_nil
  have key : ∀ ds : List Value, ds = [] → ∀ a b : Sem (List (Str × Value)), (if (decide (vals.length > (ar.map Arg.arg).length) && true) = true then a else 
     if (!(((ar.map Arg.arg).take ((ar.map Arg.arg).length - ds.length)).filter fun n => (((ar.map Arg.arg).zip vals).lookup n).isNone).isEmpty) = true then b else
       (forIn (((ar.map Arg.arg).drop ((ar.map Arg.arg).length - ds.length)).zip ds) ((ar.map Arg.arg).zip vals) (fun (x : Str × Value) r => if (r.lookup x.1).isNone = true then pure (ForInStep.yield (r ++ [(x.1, x.2)])) else pure (ForInStep.yield r))) >>= fun slots => pure ((ar.map Arg.arg ++ []).filterMap fun n => (slots.lookup n).map (n, ·)))
       = pure ((ar.map Arg.arg ++ []).filterMap fun n => (((ar.map Arg.arg).zip vals).lookup n).map (n, ·)) := by
    rintro _ rfl a b
    rw [h1]
    show (if (!(((ar.map Arg.arg).take ((ar.map Arg.arg).length)).filter fun n => (((ar.map Arg.arg).zip vals).lookup n).isNone).isEmpty) = true then b else _) = _
    rw [h2, List.zip_nil_right]
    rfl
  exact key _ hd _ _

theorem bind_plain {fd : FuncData} {vals : List Value} {names : List Str} (hp : fd.params.posonlyargs = []) (ha : fd.params.args.map (·.arg) = names) (hk : fd.params.kwonlyargs = []) (hv : fd.params.vararg = none) (hkw : fd.params.kwarg = none) (hd : fd.defaults = .none)
    (hl : names.length = vals.length) (hn : names.Nodup) : bindArgs fd ⟨vals, []⟩ = pure (names.zip vals) := by
  have h1 : ¬ (vals.length > names.length) := by omega
  have h2 : names.filter (fun n => ((names.zip vals).lookup n).isNone) = [] := by
    rw [List.filter_eq_nil_iff]
    intro x hx
    have := lookup_zip_some hl hx
    cases e : (names.zip vals).lookup x with
    | none => rw [e] at this; cases this
    | some v => simp
  rcases fd with ⟨nm, qn, ⟨po, ar, va, ko, kd, kw, df⟩, body, sc, gl, cl, dv, kdv, doc, pm, an, code, ct, bl⟩
  dsimp only at hp ha hk hv hkw hd
  subst hp ha hk hv hkw hd
  rw [bp_key (by rw [decide_eq_false h1]; rfl) (by rw [List.take_length]; exact congrArg List.isEmpty h2), List.append_nil]
  exact congrArg pure (fm_zip hl hn)

end Mine
end

section
set_option autoImplicit false
namespace Mine
open PySem PyProof.Rows
end Mine
end

section
set_option autoImplicit false
namespace Mine
open PySem PyProof.Rows
end Mine
end

section
set_option autoImplicit false
namespace Mine
open PySem

section
variable {G : PG} {d : Nat} {c : Sc} {A : Around} {env : Env} {lay : Nat → Option Place} {Sys : Addr → Prop} {base : Heap} {st : St} {s : Shared} {E : Value → Shared → Prop}

theorem tgIs_idx {u : Nat} {t : Tg} {xs : List Str} (h : tgIs u t xs = true) : ∀ j ∈ t.idx, u ≤ j := by
  cases t with
  | var i =>
    intro j hj
    rw [List.mem_singleton.mp hj, eq_of_beq ((Bool.and_eq_true _ _).mp h).1]
    exact Nat.le_refl _
  | tup is => exact ff h
theorem tgIs_ne {u : Nat} {t : Tg} (h : tgIs u t [] = true) : False := by
  cases t with
  | var i => exact ff ((Bool.and_eq_true _ _).mp h).2
  | tup is => exact ff h

/-- one turn of a comprehension -/
noncomputable abbrev CStep (G : PG) (d : Nat) (c : Sc) (A : Around) (st : St) (base : Heap) (xs : List Str) (sc : Scope) (t : Tg) (ifs : List Expr) (elt : Expr) (f : V → (Option V → Prop) → Prop) : Prop :=
  ∀ (x : V) (k : Option V → Prop), f x k → ∃ ρ', bindT t x st.ρ = some ρ' ∧ ∀ {cenv : Env} {lay' : Nat → Option Place} {Sys' : Addr → Prop} {s' : Shared}, Fx G d (inner c xs sc.names) A cenv lay' Sys' base { st with ρ := ρ' } s' →
    ∀ (K : Option Value → Shared → Prop) (E' : Value → Shared → Prop), (∀ y val s'', k (some y) → RV (NN st.H Sys') s''.heap y val → Kp (FZ A Sys') s' s'' → K (some val) s'') → (∀ s'', k none → Kp (FZ A Sys') s' s'' → K none s'') →
      wpAny (model G.prog G.w) A (forIn ifs true fun c r => if r = true then do let ok ← isTrue c cenv (eval c cenv); pure (ForInStep.yield ok) else pure (ForInStep.yield r))
        (fun ok s₃ => if ok = true then wpAny (model G.prog G.w) A (eval elt cenv) (fun v s₄ => K (some v) s₄) E' s₃ else K none s₃) E' s'

theorem comp_block {f : V → (Option V → Prop) → Prop} {t : Tg} {tg iter elt : Expr} {ifs : List Expr} {sc : Scope} {pos : Pos} {xs : List Str} {vs : List V} {ds : List Nat} {I : Addr} {cl : List (Str × Addr)} {s₂ : Shared} {nw : Bool} {QQ : List V → Prop} {RR : Value → Addr → Result → Shared → Prop}
    (F : Fx G d c A env lay Sys base st s) (k : Kp (FZ A Sys) s s₂) (io : ItOk G A st.H Sys s s₂ vs ds I nw) (hez : nw = true → isTupX tg = true) (hz : vs.length ≤ sizeLine) (ht : TableOk c xs sc) (hti : tgIs c.used t xs = true) (htg : chkTg (inner c xs sc.names) t tg = true)
    (hcl : ∀ p ∈ sc.names, p.2 = .free → ∃ a, cl.lookup p.1 = some a ∧ env.cells.lookup p.1 = some a) (hstep : CStep G d c A st base xs sc t ifs elt f) (hc : compL f vs QQ)
    (hRR : ∀ D C h' tk m' ys zs nn, QQ ys → s.heap.get? D = none → s.heap.get? C = none → D ≠ C → h'.Ns C m' → IsL h' D zs nn → zs.size ≤ sizeLine → RVs (NN st.H (fun a => Sys a ∨ a = C ∨ a = D)) h' ys zs.toList → HW (FZ A Sys) s.heap h' → RR (.ref D) C (.ok .next) { s₂ with heap := h', toks := tk }) :
    wpAny (model G.prog G.w) A (newList []) (fun acc s₃ => wpAny (model G.prog G.w) A (newFunctionEnv sc env.globals cl [] env.qual none .none (some env)) (fun cenv s₄ =>
      codeAny (model G.prog G.w) A (.compStart (.ListComp elt [⟨tg, iter, ifs, 0⟩] sc pos) 0 (.ref I) acc { cenv with scope := relabel sc env }) (RR acc cenv.locals) s₄) E s₃) E s₂ := by
  obtain ⟨fp, wr, P, Mi, Si, W, hsi, hwr, hfp, hdep, hitem⟩ := io.ex
  have hcell : ∀ y ∈ sc.names, y.2 ≠ .cell := by
    intro y hy e
    rcases ht.names y hy with q | ⟨q, _⟩ | q <;> rw [e] at q <;> cases q
  refine wpAny_newObj_type (wpAny_newFunctionEnv hcell (by intro y hy; simp at hy) (fun h₁ hns₁ hsb₁ => ?_) ht.kind)
  dsimp only at hns₁ hsb₁ ⊢
  generalize hH2 : s₂.heap.push { cls := .type "list", dict := none, data := .seq ([] : List Value).toArray } = H2 at hns₁ hsb₁ ⊢
  have hC : H2.objs.size = s₂.heap.objs.size + 1 := by rw [← hH2, Heap.size_push]
  obtain ⟨D, hDe⟩ : ∃ D, s₂.heap.objs.size = D := ⟨_, rfl⟩
  obtain ⟨C, hCe⟩ : ∃ C, H2.objs.size = C := ⟨_, rfl⟩
  rw [hCe] at hns₁ hsb₁ hC ⊢
  rw [hDe] at hC ⊢
  have hfp : ∀ b ∈ fp, b < D := fun b hb => by
    obtain ⟨o, ho⟩ := hfp b hb
    exact hDe ▸ Heap.lt_size ho
  have hDC : D ≠ C := by omega
  have below : ∀ (b : Nat) o, s₂.heap.get? b = some o → b ≠ C ∧ b ≠ D := fun b o e => by have h' : b < s₂.heap.objs.size := Heap.lt_size e; omega
  have fresh₂ : ∀ b, D ≤ b → s₂.heap.get? b = none := fun b hb => Heap.get?_none_of_le (by omega)
  have old : ∀ b o, s₂.heap.get? b = some o → h₁.get? b = some o := fun b o e => hsb₁.extBut b o (below b o e).1 (Heap.get?_push_of_some _ (hH2 ▸ Heap.get?_push_of_some _ e))
  have hacc : IsL h₁ D #[] 0 := hsb₁.extBut D _ hDC (Heap.get?_push_of_some _ (hH2 ▸ hDe ▸ Heap.get?_push_size _ rfl))
  have hst₁ : Si 0 h₁ := W.frame _ _ _ hsi fun b _ o e => old b o e
  have hDs : s.heap.get? D = none := fresh_keeps k (fresh₂ D (Nat.le_refl _))
  have hCs : s.heap.get? C = none := fresh_keeps k (fresh₂ C (by omega))
  -- what is off limits inside
  let New : Addr → Prop := fun b => b = C ∨ b = D ∨ b ∈ wr
  let Sys' : Addr → Prop := fun a => Sys a ∨ New a
  have hNs : ∀ b, New b → s.heap.get? b = none := by
    rintro b (rfl | rfl | hb)
    · exact hCs
    · exact hDs
    · exact hwr b hb
  have hplace : ∀ i p, lay i = some p → p.addr ≠ C ∧ p.addr ≠ D ∧ p.addr ∉ wr := by
    intro i p hp
    have hl := F.sim.live _ (F.sim.sys i p hp).1
    exact ⟨fun e => hl (e ▸ hCs), fun e => hl (e ▸ hDs), fun e => hl (hwr _ e)⟩
  have hplaceC : ∀ i p, layC c.used C xs lay i = some p → Sys' p.addr := by
    intro i p hp
    simp only [layC] at hp
    split at hp
    · exact .inl (F.sim.sys i p hp).1
    · simp only [Option.map_eq_some_iff] at hp
      obtain ⟨x, _, rfl⟩ := hp
      exact .inr (.inl rfl)
  have hplaceC' : ∀ i p, layC c.used C xs lay i = some p → p.addr ≠ D ∧ p.addr ∉ wr := by
    intro i p hp
    simp only [layC] at hp
    split at hp
    · exact (hplace i p hp).2
    · simp only [Option.map_eq_some_iff] at hp
      obtain ⟨x, _, rfl⟩ := hp
      exact ⟨Ne.symm hDC, fun e => by have : C < D := hfp _ (W.sub _ e); omega⟩
  have hbaseC : base.get? C = none := F.sim.keep.ext hCs
  have hDz : ¬ ZA A D := F.nz hDs
  have hCz : ¬ ZA A C := F.nz hCs
  have hfz : ∀ b ∈ fp, ¬ ZA A b := fun b hb z => by
    by_cases hbw : b ∈ wr
    · exact F.nz (hwr b hbw) z
    · rcases hdep b hb hbw with q | q
      · exact q (.inr (F.za z))
      · exact q.2 (F.sim.dis b (F.za z))
  -- the loop
  let Inv : Nat → Shared → Prop := fun n s' => ∃ i acc ys nn m h tk, n = vs.length - i ∧ i ≤ vs.length ∧ s' = { s₂ with heap := h, toks := tk } ∧ (∀ b o, b ∉ wr → s₂.heap.get? b = some o → (¬ FZ A Sys b → h.get? b = some o) ∧ ∃ sl, h.get? b = some { o with slots := sl }) ∧ Si i h ∧ IsL h D ys nn ∧ h.Ns C m ∧
    RVs (NN st.H Sys') h acc ys.toList ∧ ys.size ≤ i ∧ compL f (vs.drop i) (fun rest => QQ (acc ++ rest))
  have loop : ∀ s₃ : Shared, s₃ = { s₂ with heap := h₁, toks := s₂.toks + ([] : List (Str × Value)).length } →
      codeAny (model G.prog G.w) A (.compLoop (.ListComp elt [⟨tg, iter, ifs, 0⟩] sc pos) 0 (.ref I) (.ref D) (compEnvC sc cl C env)) (RR (.ref D) C) s₃ := by
    rintro s₃ rfl
    refine compLoop_gen Inv ?_ vs.length ⟨0, [], #[], 0, _, h₁, _, rfl, Nat.zero_le _, rfl, fun b o _ e => ⟨fun _ => old b o e, o.slots, old b o e⟩, hst₁, hacc, hns₁, .nil, Nat.le_refl _, by simpa using hc⟩
    rintro n s' ⟨i, acc, ys, nn, m, h, tk, hn, hi, rfl, hkeep, hs_i, hL, hM, hR, hsz, hcc⟩
    have toS : ∀ {h : Heap}, (∀ b o, b ∉ wr → s₂.heap.get? b = some o → (¬ FZ A Sys b → h.get? b = some o) ∧ ∃ sl, h.get? b = some { o with slots := sl }) → HW (FZ A Sys) s.heap h := fun {h} hkp b o e =>
      have nb : b ∉ wr := fun hb => by rw [hwr b hb] at e; cases e
      ⟨fun n => (hkp b o nb ((k.hw b o e).1 n)).1 n, let ⟨_, e1⟩ := (k.hw b o e).2; let ⟨sl, e2⟩ := (hkp b _ nb e1).2; ⟨sl, e2⟩⟩
    have hkeep_s := toS hkeep
    rcases Nat.lt_or_ge i vs.length with hlt | hge
    · -- one more
      have hx : vs[i]? = some vs[i] := List.getElem?_eq_getElem hlt
      rw [List.drop_eq_getElem_cons hlt] at hcc
      simp only [cl_nil, cl_cons] at hcc
      obtain ⟨ρ', hb, hstp⟩ := hstep _ _ hcc
      refine W.item i _ _ _ hlt hs_i fun val h1 tk1 hMi hfr hk1 => ?_
      refine W.own i { s₂ with heap := h1, toks := tk1 } val tg _ _ hMi hez fun h2 hs2 hP2 hk2 => ?_
      have hk02 : ∀ b o, b ∉ wr → h.get? b = some o → h2.get? b = some o := fun b o nb e => hk2 b o nb (hk1 b o nb e)
      have hk22 : ∀ b o, b ∉ wr → s₂.heap.get? b = some o → (¬ FZ A Sys b → h2.get? b = some o) ∧ ∃ sl, h2.get? b = some { o with slots := sl } := fun b o nb e => ⟨fun n => hk02 b o nb ((hkeep b o nb e).1 n), let ⟨sl, e'⟩ := (hkeep b o nb e).2; ⟨sl, hk02 b _ nb e'⟩⟩
      have hks2 := toS hk22
      have hCw : C ∉ wr := fun e => by have h' : C < D := hfp _ (W.sub _ e); omega
      have hDw : D ∉ wr := fun e => by have h' : D < D := hfp _ (W.sub _ e); omega
      have hL2 : IsL h2 D ys nn := hk02 D _ hDw hL
      have hM2 : h2.Ns C m := by
        obtain ⟨o, es, ep, ho, r⟩ := hM
        exact ⟨o, es, ep, hk02 C _ hCw ho, r⟩
      have hNew2 : ∀ b, New b → h2.get? b ≠ none := by
        rintro b (rfl | rfl | hb) e
        · obtain ⟨o, es, ep, ho, r⟩ := hM2
          rw [ho] at e; cases e
        · rw [hL2] at e; cases e
        · exact W.ex _ _ hs2 b hb e
      have S2 : Sim G.hf (TT G) lay Sys' (FZ A Sys) base st h2 := F.sim.enter (New := New) hks2 hNs hNew2
      have S3 : Sim G.hf (TT G) (layC c.used C xs lay) Sys' (FZ A Sys) base { st with ρ := wipe c.used st.ρ } h2 := S2.comp F.us (.inr (.inl rfl)) (fun i p hp => (hplace i p hp).1) hbaseC (F.sim.fresh hCs) hM2 ht.nd
      -- the item
      have hgenN : ∀ b, NN st.H Sys' b → NN st.H (fun a => Sys a ∨ a ∈ wr) b ∨ s₂.heap.get? b = none := by
        rintro b (q | q | rfl | rfl | q)
        · exact .inl (.inl q)
        · exact .inl (.inr (.inl q))
        · exact .inr (fresh₂ _ (by omega))
        · exact .inr (fresh₂ _ (Nat.le_refl _))
        · exact .inl (.inr (.inr q))
      have hgenK : ∀ b o, ¬ NN st.H (fun a => Sys a ∨ a ∈ wr) b → s₂.heap.get? b = some o → h2.get? b = some o := fun b o nb e => (hk22 b o (fun q => nb (.inr (.inr q))) e).1 fun q => nb (.inr (.inl q.2))
      have hval : RV (NN st.H Sys') h2 vs[i] val := by
        have := hitem i vs[i] val h2 hx hP2
        cases nw with
        | false => exact RV.gen hgenN hgenK this
        | true =>
          obtain ⟨t', xs', n', ws, e1, rfl, e3, e4, e5⟩ := this
          rw [e1]
          have hft : h.get? t' = none := hfr rfl t' rfl
          refine .tup (fun q => ?_) e3 e4 (RVs.gen hgenN hgenK e5)
          rcases q with q | q | rfl | rfl | q
          · exact q ((F.sim.kz hkeep_s).fresh hft)
          · exact (F.sim.kz hkeep_s).live _ q hft
          · obtain ⟨o, es, ep, ho, r⟩ := hM
            rw [ho] at hft; cases hft
          · rw [hL] at hft; cases hft
          · exact W.ex _ _ hs_i _ q hft
      obtain ⟨ρ₁, hb₁⟩ := bindT_ok (ρ₁ := wipe c.used st.ρ) hti (by rw [wipe_length]) hb
      have O' := env_comp (C := C) F.eo F.us ht hcl
      refine st_tg (c := inner c xs sc.names) F.cold O' (s := { s₂ with heap := h2, toks := tk1 }) S3 htg hb₁ hval fun h3 tk3 S4 tc => ?_
      have hus' : ∀ j p, layC c.used C xs lay j = some p → j < c.used + xs.length := by
        intro j p hp
        simp only [layC] at hp
        split at hp
        · omega
        · simp only [Option.map_eq_some_iff] at hp
          obtain ⟨x, hx, _⟩ := hp
          obtain ⟨hl, _⟩ := List.getElem?_eq_some_iff.mp hx
          omega
      have S5 : Sim G.hf (TT G) (layC c.used C xs lay) Sys' (FZ A Sys) base { st with ρ := ρ' } h3 := S4.forget (ρ' := ρ') fun j v p hp hv => by
        rw [← bindT_agree hti (by rw [wipe_length]) (fun q hq => (wipe_lo hq).symm) hb hb₁ j (hus' j p hp)]; exact hv
      have hk23 : ∀ b o, ¬ Sys' b → h2.get? b = some o → h3.get? b = some o := fun b o nb e => tc b o (fun j _ p hp hb => nb (hb ▸ hplaceC j p hp)) e
      have hk33 : ∀ b o, b ≠ C → h2.get? b = some o → h3.get? b = some o := fun b o nb e => tc b o (fun j hj p hp hb => by
        have hju : c.used ≤ j := tgIs_idx hti j hj
        simp only [layC] at hp
        rw [if_neg (by omega)] at hp
        simp only [Option.map_eq_some_iff] at hp
        obtain ⟨x, _, rfl⟩ := hp
        exact nb hb) e
      have F5 : Fx G d (inner c xs sc.names) A (compEnvC sc cl C env) (layC c.used C xs lay) Sys' base { st with ρ := ρ' } { s₂ with heap := h3, toks := tk3 } := by
        have ez : FZ A Sys' = FZ A Sys := funext fun b => propext ⟨fun q => ⟨q.1, F.za q.1⟩, fun q => ⟨q.1, .inl q.2⟩⟩
        refine ⟨⟨F.rm, O', hus', ez ▸ S5, F.own, F.cold⟩, ?_, ?_⟩
        · obtain ⟨lv, l, e, f⟩ := F.fr
          refine ⟨S5.live, l, e, fun v hv => ?_⟩
          obtain ⟨g1, L', o, g2, g3, g4, g5⟩ := f v hv
          obtain ⟨sl, g6⟩ := (hks2 L' o g4).2
          exact ⟨g1, L', _, g2, .inl g3, hk33 L' _ (fun q => hCz (q ▸ ⟨l, v, e, hv, g2⟩)) g6, g5⟩
        · exact .inr <| (F.hdo ht.dead).imp id fun ⟨y, o, vs, h1, h2, h3, h4⟩ => ⟨y, o, vs, h1, (fun q => q.elim h2 fun q => by rw [hNs y q] at h3; cases h3), hk33 y o (fun q => by rw [q, hCs] at h3; cases h3) ((hks2 y o h3).1 fun q => h2 q.2), h4⟩
      have hL3 : IsL h3 D ys nn := tc D _ (fun j _ p hp => Ne.symm (hplaceC' j p hp).1) hL2
      have hM3 : ∃ m', h3.Ns C m' := by
        -- the names of the frame stand
        cases xs with
        | nil =>
          exact (tgIs_ne hti).elim
        | cons x r => exact S5.ok c.used (.loc C x) (by simp [layC])
      have hsi3 : Si (i + 1) h3 := W.frame _ _ _ hs2 fun b hb o e => tc b o (fun j _ p hp hbe => by
        simp only [layC] at hp
        split at hp
        · have h3' := hplace j p hp
          have hs' := F.sim.sys j p hp
          by_cases hbw : b ∈ wr
          · exact h3'.2.2 (hbe ▸ hbw)
          · rcases hdep b hb hbw with q | q
            · exact q (.inr (hbe ▸ hs'.1))
            · exact q.2 (hbe ▸ hs'.2.2)
        · simp only [Option.map_eq_some_iff] at hp
          obtain ⟨x, _, rfl⟩ := hp
          have hbe : b = C := hbe
          have h' : C < D := hbe ▸ hfp b hb
          omega) e
      -- what each way of the turn leaves
      refine hstp F5 (fun o s₄ => match o with
        | some v => wpAny (model G.prog G.w) A (call (.builtin "list.append") [.ref D, v]) (fun _ s₅ => ∃ m, m < n ∧ Inv m s₅) (notedBy (model G.prog G.w) A (compEnvC sc cl C env) fun e s' => RR (.ref D) C (.error e) s') s₄
        | none => ∃ m, m < n ∧ Inv m s₄) _ ?_ ?_
      · rintro y v s₄ hq rv ⟨h4, tk4, rfl, hk4⟩
        have hL4 : IsL h4 D ys nn := (hk4 _ _ hL3).1 fun q => hDz q.1
        refine append_call hL4 (by omega) ?_
        have hot0 : ∀ b o, b ≠ D → h4.get? b = some o → (h4.update D (Obj.mapSeq fun xs => xs.push v)).get? b = some o := fun b o nb e => (Heap.get?_update_other _ _ (Ne.symm nb)).trans e
        have hoth : ∀ b o, b ≠ D → ¬ ZA A b → h3.get? b = some o → (h4.update D (Obj.mapSeq fun xs => xs.push v)).get? b = some o := fun b o nb nz e => hot0 b o nb ((hk4 b o e).1 fun q => nz q.1)
        have hR' : ∀ {us : List V} {zs : List Value}, RVs (NN st.H Sys') h4 us zs → RVs (NN st.H Sys') (h4.update D (Obj.mapSeq fun xs => xs.push v)) us zs := fun r => r.gen (fun _ q => .inl q) fun b o nb e => (Heap.get?_update_other _ _ (fun q => nb (.inr (.inr (.inr (.inl q.symm)))))).trans e
        obtain ⟨m3, hM3⟩ := hM3
        refine ⟨vs.length - (i + 1), by omega, i + 1, acc ++ [y], ys.push v, _, m3, _, tk4, rfl, hlt, rfl, ?_, ?_, hL4.update _, ?_, ?_, ?_, ?_⟩
        · intro b o nb e
          refine ⟨fun n => hot0 b o (below b o e).2 ((hk4 b o (hk33 b o (below b o e).1 ((hk22 b o nb e).1 n))).1 fun q => n ⟨q.1, F.za q.1⟩), ?_⟩
          obtain ⟨_, e1⟩ := (hk22 b o nb e).2
          obtain ⟨sl, e2⟩ := (hk4 b _ (hk33 b _ (below b o e).1 e1)).2
          exact ⟨sl, hot0 b _ (below b o e).2 e2⟩
        · exact W.frame _ _ _ hsi3 fun b hb o e => hoth b o (fun q => by have h' : D < D := q ▸ hfp b hb; omega) (hfz b hb) e
        · exact hM3.at' fun o e => hoth C o (Ne.symm hDC) hCz e
        · rw [Array.toList_push]
          refine RVs.append (hR' ?_) (hR' (.cons rv .nil))
          refine RVs.gen (fun _ q => .inl q) (fun b o nb e => (hk4 b o (hk23 b o (fun q => nb (.inr q)) (hk02 b o (fun q => nb (.inr (.inr (.inr (.inr q))))) e))).1 fun q => nb (.inr q.2)) hR
        · simp; omega
        · simpa using hq
      · rintro s₄ hq ⟨h4, tk4, rfl, hk4⟩
        obtain ⟨m3, hM3⟩ := hM3
        refine ⟨vs.length - (i + 1), by omega, i + 1, acc, ys, _, m3, _, tk4, rfl, hlt, rfl, ?_, ?_, (hk4 _ _ hL3).1 (fun q => hDz q.1), ?_, ?_, ?_, ?_⟩
        · intro b o nb e
          refine ⟨fun n => (hk4 b o (hk33 b o (below b o e).1 ((hk22 b o nb e).1 n))).1 fun q => n ⟨q.1, F.za q.1⟩, ?_⟩
          obtain ⟨_, e1⟩ := (hk22 b o nb e).2
          obtain ⟨sl, e2⟩ := (hk4 b _ (hk33 b _ (below b o e).1 e1)).2
          exact ⟨sl, e2⟩
        · exact W.frame _ _ _ hsi3 fun b hb o e => (hk4 b o e).1 fun q => hfz b hb q.1
        · exact hM3.at' fun o e => (hk4 C o e).1 fun q => hCz q.1
        · refine RVs.gen (fun _ q => .inl q) (fun b o nb e => (hk4 b o (hk23 b o (fun q => nb (.inr q)) (hk02 b o (fun q => nb (.inr (.inr (.inr (.inr q))))) e))).1 fun q => nb (.inr q.2)) hR
        · omega
        · simpa using hq
    · -- the end
      have hi' : i = vs.length := by omega
      subst hi'
      rw [List.drop_length] at hcc
      simp only [cl_nil, cl_cons, List.append_nil] at hcc
      have hq : Hq A h := (F.hdo ht.dead).imp id fun ⟨y, o, vs, h1, h2, h3, h4⟩ => ⟨y, o, vs, h1, (hkeep_s y o h3).1 fun q => h2 q.2, h4⟩
      have hy : ∀ y, A.handled = some (.ref y) → y ∉ wr := fun y e hb => by
        rcases F.hdo ht.dead with q | ⟨y', o, vs, h1, h2, h3, _⟩
        · rw [q] at e; cases e
        · rw [h1] at e; cases e; rw [hwr _ hb] at h3; cases h3
      refine W.done _ _ _ hq hy hs_i fun h1 tk1 hk1 => ?_
      have hCw : C ∉ wr := fun e => by have h' : C < D := hfp _ (W.sub _ e); omega
      have hDw : D ∉ wr := fun e => by have h' : D < D := hfp _ (W.sub _ e); omega
      have hM1 : h1.Ns C m := hM.at' fun o e => hk1 C o hCw e
      refine hRR D C h1 tk1 m acc ys nn hcc hDs hCs hDC hM1 (hk1 D _ hDw hL) (by omega) (hR.gen (fun b q => ?_) fun b o nb e => hk1 b o (fun q => nb (.inr (.inr (.inr (.inr q))))) e) (toS fun b o nb e => ⟨fun n => hk1 b o nb ((hkeep b o nb e).1 n), let ⟨sl, e'⟩ := (hkeep b o nb e).2; ⟨sl, hk1 b _ nb e'⟩⟩)
      rcases q with q | q | q | q
      · exact .inl (.inl q)
      · exact .inl (.inr (.inl q))
      · exact .inl (.inr (.inr (.inl q)))
      · exact .inl (.inr (.inr (.inr (.inl q))))
  exact codeAny_compStart_list (loop _ rfl) (W.self 0 _ _ _ hst₁ (loop _ rfl))
end

end Mine
end

section
set_option autoImplicit false
namespace Mine
open PySem

section
variable {G : PG} {d : Nat} {c : Sc} {A : Around} {env : Env} {lay : Nat → Option Place} {Sys : Addr → Prop} {base : Heap} {st : St} {s : Shared}

theorem folded_plain {x : Expr} (h : isSetX x = false) (env : Env) (v : Value) : foldedSetIterable x env v = pure v := by
  cases x <;> first | rfl | exact nomatch h

theorem free_cells {xs : List Str} {sc : Scope} (O : EnvOk env c.names c.σ lay) (ht : TableOk c xs sc) : ∀ p ∈ sc.names, p.2 = .free → ∃ a, env.cells.lookup p.1 = some a := by
  intro p hp hf
  rcases ht.names p hp with q | ⟨_, _, ⟨i, hi⟩, hk, _⟩ | q
  · rw [hf] at q; cases q
  · obtain ⟨pl, _, hc⟩ := O.vars p.1 i hi
    have hk' : env.kindOf p.1 = some .cell ∨ env.kindOf p.1 = some .free := hk.elim (fun q => .inl (O.ce _ q)) (O.fr _)
    rcases hc with ⟨hl, _⟩ | ⟨_, _, a, ha, _⟩
    · rcases hk' with q | q <;> rw [hl] at q <;> cases q
    · exact ⟨a, ha⟩
  · rw [hf] at q; cases q

/-- a comprehension's value -/
theorem comp_val {f : V → (Option V → Prop) → Prop} {t : Tg} {tg iter elt : Expr} {ifs : List Expr} {sc : Scope} {pos : Pos} {xs : List Str} {it : It} {Q : V → Prop} {X : String → Prop} {K E : Value → Shared → Prop}
    (F : Fx G d c A env lay Sys base st s) (hi : SI G d c it iter) (hset : isSetX iter = false) (hez : isEZ it = true → isTupX tg = true) (ht : TableOk c xs sc) (hti : tgIs c.used t xs = true) (htg : chkTg (inner c xs sc.names) t tg = true)
    (hstep : CStep G d c A st base xs sc t ifs elt f) (hW : WI (G.cx d) it st (fun xs _ => xs.length ≤ sizeLine ∧ compL f xs (fun ys => Q (.lst ys))) X)
    (hK : ∀ v val s', Q v → RV (NN st.H Sys) s'.heap v val → Kp (FZ A Sys) s s' → Frsh (NN st.H Sys) s s' v val → K val s') (hX : ∀ e s', Rz G.mg A Sys s X e s' → E e s') :
    wpAny (model G.prog G.w) A (eval (.ListComp elt [⟨tg, iter, ifs, 0⟩] sc pos) env) K E s := by
  rw [eval_ListComp]
  obtain ⟨cl, e1, e2⟩ := closure_ok (free_cells F.eo ht)
  refine wpAny_comprehension_free (use := none) rfl (folded_plain hset env) e1 ht.kind (fun x hx hl => by rw [← hl]; exact nodup_lookup ht.nodup hx) ?_
  refine hi F _ X _ E hW (fun vs ds I s₂ hq k io => ?_) hX
  refine comp_block (RR := fun acc C => compPost (model G.prog G.w) A E none K acc C) F k io hez hq.1 ht hti htg e2 hstep hq.2 ?_
  intro D C h' tk m' ys zs nn hQ hD hC hDC hm hl hz hr hk
  refine ⟨m', hm, fun h'' hs => ?_⟩
  obtain ⟨h2, t2, rfl, k2⟩ := k
  have hkk : HW (FZ A Sys) s.heap h'' := hk.ext1 hC hs.extBut
  have hl' : IsL h'' D zs nn := hs.extBut D _ hDC hl
  have hr' : RVs (fun b => NN st.H Sys b ∨ b = D) h'' ys zs.toList := hr.gen (fun b q => by
    rcases q with (q | q) | q
    · exact .inl (.inl q)
    · exact .inl (.inr (.inl q))
    · exact .inl (.inr (.inr (.inr q)))) fun b o nb e => hs.extBut b o (fun q => nb (.inr (.inr (.inl q)))) e
  refine hK _ _ _ hQ (new_at F.sim.objs F.sim.live hD hl' hz (hr'.less fun b q => .inl q)) (Kp.ofW hkk) ?_
  rintro a ⟨⟩
  refine ⟨hD, ?_⟩
  rintro vs' ⟨⟩
  exact ⟨zs, nn, hl', hz, hr'⟩

theorem cstep_plain {t : Tg} {e : E} {elt : Expr} {sc : Scope} {xs : List Str} (he : SE G d (inner c xs sc.names) e elt) :
    CStep G d c A st base xs sc t [] elt (fun x k => match bindT t x st.ρ with
        | some ρ' => WE (G.cx d) e { st with ρ := ρ' } (fun y => k (some y)) (fun _ => False)
        | none => False) := by
  intro x k h
  split at h
  · rename_i ρ' hb
    refine ⟨ρ', hb, fun {cenv lay' Sys' s'} F K E' hs hn => wpAny_tests_nil ?_⟩
    rw [if_pos rfl]
    exact (he F).weak _ (fun _ => False) _ _ h (fun v val s'' q r k' _ => hs v val s'' q r k') fun e s'' q => q.no.elim
  · exact h.elim

theorem se_comp {t : Tg} {e : E} {tg iter elt : Expr} {sc : Scope} {pos : Pos} {xs : List Str} {it : It} (F : Fx G d c A env lay Sys base st s) (hi : SI G d c it iter) (hset : isSetX iter = false) (hez : isEZ it = true → isTupX tg = true) (ht : TableOk c xs sc) (hti : tgIs c.used t xs = true)
    (htg : chkTg (inner c xs sc.names) t tg = true) (he : SE G d (inner c xs sc.names) e elt) : Snd G.prog G.w G.mg A (NN st.H Sys) Sys s true (eval (.ListComp elt [⟨tg, iter, [], 0⟩] sc pos) env) (WE (G.cx d) (.comp e t it) st) := by
  intro Q X K E hW hK hX
  simp only [we_0, we_1, we_2, we_3, we_4, we_5, we_6, we_7, we_8, we_9, we_10, we_11, we_12, we_13, we_14, we_15, we_16, we_17, we_18, we_19, we_20, we_21, we_22, we_23, we_24, we_25, we_26, we_27, we_28, we_29, we_30, we_31, we_32, we_33, we_34, we_35, we_36, we_37] at hW
  exact comp_val F hi hset hez ht hti htg (cstep_plain he) hW (fun v val s' q r k f => hK v val s' q r k fun _ => f) hX
end

end Mine
end

section
set_option autoImplicit false
namespace Mine
open PySem

/-- what a call of the table's functions gives, at so many levels of calls -/
noncomputable def CallSnd (G : PG) (d : Nat) : Prop :=
  ∀ {A : Around} {H : AH} {Sys : Addr → Prop} {s : Shared} {f : String} {fa : Addr} {vs : List V} {vals : List Value}, RmC d A → (∃ b0, TT G b0 ∧ HK b0 s.heap ∧ ∀ a, NN H Sys a → b0.get? a = none) → HO G.hf H Sys s.heap → (∀ a, Sys a → s.heap.get? a ≠ none) → (∀ a, Sys a → H a = none) → FrOk A Sys s.heap → HdOk A Sys s.heap → (G.hots.contains f = false → A.handled = none) → G.mg (Str.ofString f) = some (.ref fa) →
    RVs (NN H Sys) s.heap vs vals → ∀ (Q : V → AH → Prop) (X : String → Prop) (K E : Value → Shared → Prop), (G.cx d).run f vs H Q X → (∀ v val H' Sys' s', Q v H' → Given G.hf H H' Sys Sys' s s' → RV (NN H' Sys') s'.heap v val → Kp (FZ A Sys) s s' → K val s') → (∀ e s', Rz G.mg A Sys s X e s' → E e s') →
      wpAny (model G.prog G.w) A (call (.ref fa) vals) K E s

section
variable {G : PG} {d : Nat} {c : Sc} {A : Around} {env : Env} {lay : Nat → Option Place} {Sys : Addr → Prop} {base : Heap} {st : St} {s : Shared}

theorem call_raw (hc : CallSnd G d) {f : String} {es : Es} {y : Str} {p pos : Pos} {z : Expr} {xs : List Expr} (F : Fx G d c A env lay Sys base st s) (hg : isGlob c y f = true) (h : SEs G d c es (z :: xs)) (hf : ∃ fn, G.tbl.lookup f = some fn) (hfn0 : c.fns.contains f = true) (hho : c.hots = G.hots) :
    ∀ (Q : V → AH → Prop) (X : String → Prop) (K E : Value → Shared → Prop), WEs (G.cx d) es st (fun vs => (G.cx d).run f vs st.H Q X) X → (∀ v val H' Sys' s', Q v H' → Given G.hf st.H H' Sys Sys' s s' → RV (NN H' Sys') s'.heap v val → Kp (FZ A Sys) s s' → K val s') → (∀ e s', Rz G.mg A Sys s X e s' → E e s') →
      wpAny (model G.prog G.w) A (eval (.Call (.Name y p) (z :: xs) [] pos) env) K E s := by
  intro Q X K E hW hK hX
  obtain ⟨fn, hfn⟩ := hf
  have hcold : G.hots.contains f = false → A.handled = none := fun e => F.cold (by
    have := isGlob_hot hg
    unfold hotOk at this
    rw [hho, e, hfn0] at this
    cases q : c.hot with
    | false => rfl
    | true => rw [q] at this; simp at this)
  have hnd : ¬ (c.hot = true ∧ c.dead = true) := fun ⟨q1, q2⟩ => by
    have := isGlob_hot hg
    unfold hotOk at this
    rw [hfn0, q1, q2] at this
    simp at this
  obtain ⟨b0, T0, k0, n0⟩ := F.sim.topH
  obtain ⟨dr, a, o, pm, code, doc, h1, h2, h3, h4, h5⟩ := T0.fn f fn hfn
  have k0' : ∀ {s₁ : Shared}, Kp (FZ A Sys) s s₁ → HK b0 s₁.heap := fun k₁ b o e => (k₁.hw b o (k0 b o e)).1 fun q => by rw [n0 b (.inr q.2)] at e; cases e
  rw [arm_eval_Call_Name']
  refine wpAny_bind (ld_glob F hg h1 ?_)
  have e : backTo pos (starEach (z :: xs) env) = (false, eval z env) :: backTo pos (starEach xs env) := by
    have := h.1
    simp only [List.all_cons, Bool.and_eq_true] at this
    rw [starEach_cons this.1]; rfl
  have hs := h.2 F pos _ X (fun vals s' => (s'.heap.get? a = some o ∧ o.data = .func (Calls.docDef dr.name dr.params dr.body dr.scope pm code doc)) ∧ wpAny (model G.prog G.w) A (call (.ref a) vals) K E s') E hW (fun vs vals s' q r k => ?_) hX
  · show wpAny _ _ (callWith pos (.ref a) [] _ _) _ _ _
    rw [e] at hs ⊢
    exact Calls.callWith_function (Calls.evalArgs_plain hs)
  · have F' := F.keeps k
    exact ⟨⟨(k0' k) _ _ h2, h3⟩, hc F'.rm.toC F'.sim.topH F'.sim.objs F'.sim.live F'.sim.dis F'.fr (F'.hd.resolve_left hnd) hcold h1 r Q X K E q (fun v val H' Sys' s'' q' g r' k' => hK v val H' Sys' s'' q' (g.before k) r' (k.trans k')) fun e s'' q' => hX e s'' (Rz.trans k q')⟩
theorem se_call (hc : CallSnd G d) {f : String} {es : Es} {y : Str} {p pos : Pos} {z : Expr} {xs : List Expr} (F : Fx G d c A env lay Sys base st s) (hg : isGlob c y f = true) (h : SEs G d c es (z :: xs)) (hf : ∃ fn, G.tbl.lookup f = some fn) (hfn0 : c.fns.contains f = true) (hho : c.hots = G.hots) :
    Snd G.prog G.w G.mg A (NN st.H Sys) Sys s false (eval (.Call (.Name y p) (z :: xs) [] pos) env) (WE (G.cx d) (.call f es) st) := by
  intro Q X K E hW hK hX
  simp only [we_0, we_1, we_2, we_3, we_4, we_5, we_6, we_7, we_8, we_9, we_10, we_11, we_12, we_13, we_14, we_15, we_16, we_17, we_18, we_19, we_20, we_21, we_22, we_23, we_24, we_25, we_26, we_27, we_28, we_29, we_30, we_31, we_32, we_33, we_34, we_35, we_36, we_37] at hW
  refine call_raw hc F hg h hf hfn0 hho _ X K E hW (fun v val H' Sys' s' q g r k => ?_) hX
  have hfz := frz_ok (H := H') (B := st.H) (Sys := Sys) (Sys' := Sys') (h := s'.heap) g.ho g.sub g.stay fun a q q' hs => F.sim.live a hs (g.own a q q')
  split at q
  · rename_i v' hv'
    exact hK v' _ s' q ((hfz 8).1 _ _ _ hv' r) k nofun
  · exact q.elim
end

theorem st_ite {G : PG} {d : Nat} {c : Sc} {t a b : E} {y z u : Expr} {pos : Pos} (ht : ST G d c t y) (ha : ST G d c a z) (hb : ST G d c b u) : ST G d c (.ite t a b) (.IfExp y z u pos) := by
  intro A env lay Sys base st s F Q X K E hW hK hX
  simp only [we_0, we_1, we_2, we_3, we_4, we_5, we_6, we_7, we_8, we_9, we_10, we_11, we_12, we_13, we_14, we_15, we_16, we_17, we_18, we_19, we_20, we_21, we_22, we_23, we_24, we_25, we_26, we_27, we_28, we_29, we_30, we_31, we_32, we_33, we_34, we_35, we_36, we_37] at hW
  show wpAny _ _ (do if ← isTrue y env (eval y env) then isTrue z env (eval z env) else isTrue u env (eval u env)) _ _ _
  refine wpAny_bind (ht F (fun r => if r then WE (G.cx d) a st (fun u => match truthV st.H u with | some b => Q b | none => False) X else WE (G.cx d) b st (fun u => match truthV st.H u with | some b => Q b | none => False) X) X _ E (WE_cg hW fun u => ?_) (fun r s₁ q k => ?_) hX)
  · cases truthV st.H u with
    | none => rfl
    | some r => cases r <;> rfl
  · cases r
    · simp only [Bool.false_eq_true, if_false] at q ⊢
      exact hb (F.keeps k) Q X K E q (fun b s' q' k' => hK b s' q' (k.trans k')) fun e s' q' => hX e s' (Rz.trans k q')
    · simp only [if_true] at q ⊢
      exact ha (F.keeps k) Q X K E q (fun b s' q' k' => hK b s' q' (k.trans k')) fun e s' q' => hX e s' (Rz.trans k q')

theorem isComp_inv {y : Expr} (h : isComp y = true) : (∃ a b c d, y = .ListComp a b c d) ∨ (∃ a b c d, y = .SetComp a b c d) ∨ (∃ a b c d e, y = .DictComp a b c d e) := by
  cases y <;> first | exact ff h | exact .inl ⟨_, _, _, _, rfl⟩ | exact .inr (.inl ⟨_, _, _, _, rfl⟩) | exact .inr (.inr ⟨_, _, _, _, _, rfl⟩)
theorem comp_only {c : Sc} {e : E} {y : Expr} (he : chkE c e y = true) (h : isComp y = true) : isCompE e = true := by
  rcases isComp_inv h with ⟨a, b, g, d, rfl⟩ | ⟨a, b, g, d, rfl⟩ | ⟨a, b, g, d, p, rfl⟩ <;> cases e <;> first | rfl | exact ff he

theorem tyNames {t : Ty} (h : plainTy t = true) : tyName t ∈ bnames ∧ bval (tyName t) = .type (tyName t) := by
  cases t <;> first | exact ⟨by decide, rfl⟩ | exact ff h

end Mine
end

section
set_option autoImplicit false
set_option maxRecDepth 100000
namespace Mine
open PySem
section
variable {prog : Program} {w : World} {A : Around} {E : Value → Shared → Prop} {h : Heap} {g : Array GenState} {d : Drawn} {t : Nat} {os : OsState} {a : Addr} {o : Obj}
  {nm q : Str} {C N : Addr} {bs bm : List Value} {hdct : Bool} {sn : List Str} {sub : List Value} {ab : Bool} {col : Option Bool} {dd : Option Addr} {k0 k1 k2 k3 k5 : Option Value} {newId : String}
theorem along_q {M : Model} {l : List Value} {n : Str} {y : Option Value} {Q : Option Value → Shared → Prop} (hn : n ∈ qNames) (T : QTail h l) (hrest : lookupAlong bmV n = pure y) (hq : Q y ⟨h, g, d, t, os⟩) : wpAny M A (lookupAlong l n) Q E ⟨h, g, d, t, os⟩ := by
  induction T with
  | base => rw [hrest]; exact wpAny_pure hq
  | own hA hN hni _ ih =>
    rw [lookupAlong_cons]
    refine wpAny_bind (wpAny_classOwn_cls hA hN ?_)
    rw [hni n hn]
    exact ih
theorem look_q {M : Model} {n : Str} {y : Option Value} {Q : Option Value → Shared → Prop} (hn : n ∈ qNames) (hC : h.get? C = some (excClassObj nm q C N bs bm hdct sn sub ab col dd k0 k1 k2 k3 k5 newId)) (T : QTail h (.ref C :: bm))
    (hB : typeLookup (.type "ValueError") n = pure y) (hq : Q y ⟨h, g, d, t, os⟩) : wpAny M A (typeLookup (.ref C) n) Q E ⟨h, g, d, t, os⟩ := by
  have hrest : lookupAlong bmV n = pure y := by rw [typeLookup_eq, F.attrBase_ValueError.mro] at hB; exact hB
  rw [typeLookup_eq]
  exact wpAny_bind (wpAny_mroOf_exc hC (along_q hn T hrest hq))
theorem q_has {l : List Value} {X : String} {b : Bool} (T : QTail h l) (hb : bmV.contains (.type X) = b) : l.contains (.type X) = b := by
  induction T with
  | base => exact hb
  | own _ _ _ _ ih => rw [List.contains_cons, ih]; rfl
theorem lk_ve_class : typeLookup (.type "ValueError") "__class__" = pure (some (.builtin "object.__class__")) := by rw [typeLookup_type, builtinLookup_eq_fast]; kernel_rfl

theorem cls_get {R : Result → Shared → Prop} (hC : h.get? C = some (excClassObj nm q C N bs bm hdct sn sub ab col dd k0 k1 k2 k3 k5 newId)) (T : QTail h (.ref C :: bm)) (hx : h.get? a = some o) (hc : o.cls = .ref C) (hq : R (.ok (.ret (.ref C))) ⟨h, g, d, t, os⟩) :
    codeAny (model prog w) A (.call (.builtin "getset_descriptor.__get__") ⟨[.builtin "object.__class__", .ref a, .ref C], []⟩) R ⟨h, g, d, t, os⟩ := by
  have hT5 : (⟨h, g, d, t, os⟩ : Shared).TypeIs (.builtin "object.__class__") "getset_descriptor" := F.typeOf_object_class
  have hcB : (Value.ref C :: bm).contains (.type (".".intercalate ("object.__class__".cutAt '.').dropLast)) = true := by
    rw [F.owner_object_class]; exact q_has T rfl
  refine codeAny_call_builtin F.slot_gs_get.plain F.entry_gs_get (F.slot_gs_get.check _ _ _ _ _ _ _ _ hT5 (F.args_gs_get _ _ _) ?_)
  repeat (any_goals (first | assumption | (with_reducible refine wpAny_loadPart_at hx ?_; rw [hc]) | (with_reducible refine wpAny_isSubtype_exc hC ?_; rw [hcB]) | wp_step))
  refine ⟨Code.quiet_builtin _ (by decide +kernel), codeAny_builtin F.entry_object_class ?_⟩
  repeat (any_goals (first | assumption | (with_reducible refine wpAny_loadPart_at hx ?_; rw [hc]) | wp_step))

theorem cls_entry {tk : Tok} {Q : Fin → Shared → Prop} (hC : h.get? C = some (excClassObj nm q C N bs bm hdct sn sub ab col dd k0 k1 k2 k3 k5 newId)) (T : QTail h (.ref C :: bm)) (hx : h.get? a = some o) (hc : o.cls = .ref C) (hq : Q (.done (.ret (.ref C))) ⟨h, g, d, t, os⟩) :
    wpAny (model prog w) A (Builtin.«object.__getattribute__» ⟨[.ref a, .str "__class__" tk], []⟩) Q E ⟨h, g, d, t, os⟩ := by
  have hT5 : (⟨h, g, d, t, os⟩ : Shared).TypeIs (.builtin "object.__class__") "getset_descriptor" := F.typeOf_object_class
  have f5 := F.typeOf_object_class
  have f6 := F.slot_gs_get.lookup
  have f7 := F.slot_gs_set.lookup
  have hmA : ("__class__" : Str) ∈ qNames := .tail _ (.tail _ (.head _))
  repeat (any_goals (first | assumption | (with_reducible refine wpAny_loadPart_at hx ?_; rw [hc]) | with_reducible refine look_q hmA hC T lk_ve_class ?_ | wp_step))
  refine cls_get hC T hx hc ?_
  repeat (any_goals (first | assumption | wp_step))

theorem chk_ga {M : Model} {nameV : Value} {Q : Unit → Shared → Prop} (hC : h.get? C = some (excClassObj nm q C N bs bm hdct sn sub ab col dd k0 k1 k2 k3 k5 newId)) (T : QTail h (.ref C :: bm)) (hx : h.get? a = some o) (hc : o.cls = .ref C) (hq : Q () ⟨h, g, d, t, os⟩) : wpAny M A (checkBuiltinCall "BaseException.__getattribute__" ⟨[.ref a, nameV], []⟩) Q E ⟨h, g, d, t, os⟩ := by
  have hk : builtinKind "BaseException.__getattribute__" = some .slot := by decide +kernel
  have hsplit : splitId "BaseException.__getattribute__" = some ("BaseException", "__getattribute__") := by decide +kernel
  have hcB : (Value.ref C :: bm).contains (.type "BaseException") = true := q_has T rfl
  have ha := F.args_bexc_ga (.ref a) nameV
  simp only [checkBuiltinCall, hk, hsplit]
  refine wpAny_bind ?_
  · unfold isInstance
    repeat (first | (with_reducible refine wpAny_loadPart_at hx ?_; rw [hc]) | (with_reducible refine wpAny_isSubtype_exc hC ?_; rw [hcB]) | wp_step)
    exact hq

theorem cls_call {tk : Tok} {R : Result → Shared → Prop} (hC : h.get? C = some (excClassObj nm q C N bs bm hdct sn sub ab col dd k0 k1 k2 k3 k5 newId)) (T : QTail h (.ref C :: bm)) (hx : h.get? a = some o) (hc : o.cls = .ref C) (hq : R (.ok (.ret (.ref C))) ⟨h, g, d, t, os⟩) :
    codeAny (model prog w) A (.call (.builtin "BaseException.__getattribute__") ⟨[.ref a, .str "__class__" tk], []⟩) R ⟨h, g, d, t, os⟩ :=
  codeAny_call_builtin F.attrBase_ValueError.ga.plain F.entry_bexc_ga (chk_ga hC T hx hc (cls_entry hC T hx hc hq))

theorem cls_by {tk : Tok} {Q : Value → Shared → Prop} (hC : h.get? C = some (excClassObj nm q C N bs bm hdct sn sub ab col dd k0 k1 k2 k3 k5 newId)) (T : QTail h (.ref C :: bm)) (hx : h.get? a = some o) (hc : o.cls = .ref C) (hq : Q (.ref C) ⟨h, g, d, t, os⟩) : wpAny (model prog w) A (getAttrBy (.ref a) (.str "__class__" tk) false) Q E ⟨h, g, d, t, os⟩ := by
  have f3 := F.attrBase_ValueError.ga.bind (.ref a)
  have hx2 : (Value.builtin "BaseException.__getattribute__" == Value.builtin "object.__getattribute__") = false := by decide +kernel
  have hx1 : (onTheHeap (Value.ref C) && Value.builtin "BaseException.__getattribute__" == Value.builtin "object.__getattribute__") = false := by rw [hx2]; rfl
  have hm1 : ("__getattribute__" : Str) ∈ qNames := .head _
  have hm2 : ("__getattr__" : Str) ∈ qNames := .tail _ (.head _)
  repeat (any_goals (first | assumption | (with_reducible refine wpAny_loadPart_at hx ?_; rw [hc]) | with_reducible refine look_q hm1 hC T F.attrBase_ValueError.ga.lookup ?_ | with_reducible refine look_q hm2 hC T F.attrBase_ValueError.noGetattr ?_ | wp_step))
  refine cls_call hC T hx hc ?_
  repeat (any_goals (first | assumption | wp_step))

theorem cls_attr {Q : Option Value → Shared → Prop} (hC : h.get? C = some (excClassObj nm q C N bs bm hdct sn sub ab col dd k0 k1 k2 k3 k5 newId)) (T : QTail h (.ref C :: bm)) (hx : h.get? a = some o) (hc : o.cls = .ref C) (hq : Q (some (.ref C)) ⟨h, g, d, t + 1, os⟩) : wpAny (model prog w) A (getAttr? (.ref a) "__class__") Q E ⟨h, g, d, t, os⟩ := by
  unfold getAttr? getAttrBy?
  repeat (any_goals (first | assumption | with_reducible apply cls_by hC T hx hc | wp_step))

theorem isi_ve {dep : Int} {tk : Tok} {Q : Fin → Shared → Prop} (hC : h.get? C = some (excClassObj nm q C N bs bm hdct sn sub ab col dd k0 k1 k2 k3 k5 newId)) (T : QTail h (.ref C :: bm)) (hx : h.get? a = some o) (hc : o.cls = .ref C) (hq : Q (.done (.ret (.bool true))) ⟨h, g, d, t, os⟩) :
    wpAny (model prog w) A (Builtin.«isinstance.nested» ⟨[.ref a, .type "ValueError", .int dep tk], []⟩) Q E ⟨h, g, d, t, os⟩ := by
  have hty : typeOf (.type "ValueError") = pure (.type "type") := by kernel_rfl
  have hcV : (Value.ref C :: bm).contains (.type "ValueError") = true := q_has T rfl
  have he' : (Value.ref C == Value.type "ValueError") = false := rfl
  repeat (any_goals (first | assumption | (with_reducible refine wpAny_loadPart_at hx ?_; rw [hc]) | (with_reducible refine wpAny_isSubtype_exc hC ?_; rw [hcV]) | wp_step))

theorem isi_own {D : Addr} {nm' q' : Str} {N' : Addr} {bs' bm' : List Value} {hdct' : Bool} {sn' : List Str} {sub' : List Value} {ab' : Bool} {col' : Option Bool} {dd' : Option Addr} {k0' k1' k2' k3' k5' : Option Value} {newId' : String}
    {b : Bool} {dep : Int} {tk : Tok} {Q : Fin → Shared → Prop} (hC : h.get? C = some (excClassObj nm q C N bs bm hdct sn sub ab col dd k0 k1 k2 k3 k5 newId)) (hD : h.get? D = some (excClassObj nm' q' D N' bs' bm' hdct' sn' sub' ab' col' dd' k0' k1' k2' k3' k5' newId'))
    (T : QTail h (.ref C :: bm)) (hx : h.get? a = some o) (hc : o.cls = .ref C) (hb : (Value.ref C :: bm).contains (.ref D) = b) (hq : ∀ t', Q (.done (.ret (.bool b))) ⟨h, g, d, t', os⟩) :
    wpAny (model prog w) A (Builtin.«isinstance.nested» ⟨[.ref a, .ref D, .int dep tk], []⟩) Q E ⟨h, g, d, t, os⟩ := by
  have q1 := hq t
  have q2 := hq (t + 1)
  by_cases he : (Value.ref C == Value.ref D) = true
  · have : b = true := by rw [← hb, List.contains_cons]; rw [show (Value.ref D == Value.ref C) = true from by rw [eq_of_beq he]; exact beq_self_eq_true _]; rfl
    subst this
    repeat (any_goals (first | assumption | (with_reducible refine wpAny_loadPart_at hx ?_; rw [hc]) | with_reducible refine wpAny_loadPart_at hD ?_ | wp_step))
  · have he' : (Value.ref C == Value.ref D) = false := by simpa using he
    cases b with
    | true => repeat (any_goals (first | assumption | (with_reducible refine wpAny_loadPart_at hx ?_; rw [hc]) | with_reducible refine wpAny_loadPart_at hD ?_ | (with_reducible refine wpAny_isSubtype_exc hC ?_; rw [hb]) | wp_step))
    | false => repeat (any_goals (first | assumption | with_reducible apply cls_attr hC T hx hc | (with_reducible refine wpAny_loadPart_at hx ?_; rw [hc]) | with_reducible refine wpAny_loadPart_at hD ?_ | (with_reducible refine wpAny_isSubtype_exc hC ?_; rw [hb]) | wp_step))

theorem call_isi_ve {s : Shared} {K : Value → Shared → Prop} (hC : s.heap.get? C = some (excClassObj nm q C N bs bm hdct sn sub ab col dd k0 k1 k2 k3 k5 newId)) (T : QTail s.heap (.ref C :: bm)) (hx : s.heap.get? a = some o) (hc : o.cls = .ref C) (hK : K (.bool true) s) : wpAny (model prog w) A (call (.builtin "isinstance") [.ref a, .type "ValueError"]) K E s :=
  call_isinstance (S := fun _ R s => (s.heap.get? C = some (excClassObj nm q C N bs bm hdct sn sub ab col dd k0 k1 k2 k3 k5 newId) ∧ QTail s.heap (.ref C :: bm) ∧ s.heap.get? a = some o) ∧ R (.ok (.ret (.bool true))) s)
    (fun _ _ _ _ s hs => by
      obtain ⟨h, g, d, t, os⟩ := s
      obtain ⟨⟨h1, h2, h3⟩, hq⟩ := hs
      exact isinstance_outer (isi_ve h1 h2 h3 hc hq) (by intro e; cases e)) ⟨⟨hC, T, hx⟩, hK⟩
theorem call_isi_own {s : Shared} {K : Value → Shared → Prop} {D : Addr} {nm' q' : Str} {N' : Addr} {bs' bm' : List Value} {hdct' : Bool} {sn' : List Str} {sub' : List Value} {ab' : Bool} {col' : Option Bool} {dd' : Option Addr} {k0' k1' k2' k3' k5' : Option Value} {newId' : String} {b : Bool}
    (hC : s.heap.get? C = some (excClassObj nm q C N bs bm hdct sn sub ab col dd k0 k1 k2 k3 k5 newId)) (hD : s.heap.get? D = some (excClassObj nm' q' D N' bs' bm' hdct' sn' sub' ab' col' dd' k0' k1' k2' k3' k5' newId')) (T : QTail s.heap (.ref C :: bm)) (hx : s.heap.get? a = some o) (hc : o.cls = .ref C) (hb : (Value.ref C :: bm).contains (.ref D) = b) (hK : ∀ t', K (.bool b) { s with toks := t' }) : wpAny (model prog w) A (call (.builtin "isinstance") [.ref a, .ref D]) K E s :=
  call_isinstance (S := fun _ R s => (s.heap.get? C = some (excClassObj nm q C N bs bm hdct sn sub ab col dd k0 k1 k2 k3 k5 newId) ∧ s.heap.get? D = some (excClassObj nm' q' D N' bs' bm' hdct' sn' sub' ab' col' dd' k0' k1' k2' k3' k5' newId') ∧ QTail s.heap (.ref C :: bm) ∧ s.heap.get? a = some o) ∧ ∀ t', R (.ok (.ret (.bool b))) { s with toks := t' })
    (fun _ _ _ _ s hs => by
      obtain ⟨h, g, d, t, os⟩ := s
      obtain ⟨⟨h1, h2, h3, h4⟩, hq⟩ := hs
      exact isinstance_outer (isi_own h1 h2 h3 h4 hc hb hq) (by intro e; cases e)) ⟨⟨hC, hD, T, hx⟩, hK⟩
end
section
variable {G : PG} {d : Nat} {c : Sc} {A : Around} {env : Env} {lay : Nat → Option Place} {Sys : Addr → Prop} {base : Heap} {st : St} {s : Shared}
theorem se_isexc {a : E} {t : String} {y u : Str} {z : Expr} {p p' pos : Pos} (F : Fx G d c A env lay Sys base st s) (hg : isGlob c y "isinstance" = true) (hz : noStar z = true) (ha : SE G d c a z) (ht : isGlob c u t = true) (htx : t ∈ G.xs ∨ t = "ValueError") :
    Snd G.prog G.w G.mg A (NN st.H Sys) Sys s false (eval (.Call (.Name y p) [z, .Name u p'] [] pos) env) (WE (G.cx d) (.isexc a t) st) := by
  intro Q X K E hW hK hX
  simp only [we_0, we_1, we_2, we_3, we_4, we_5, we_6, we_7, we_8, we_9, we_10, we_11, we_12, we_13, we_14, we_15, we_16, we_17, we_18, we_19, we_20, we_21, we_22, we_23, we_24, we_25, we_26, we_27, we_28, we_29, we_30, we_31, we_32, we_33, we_34, we_35, we_36, we_37] at hW
  rw [arm_eval_Call_Name']
  refine wpAny_bind (ld_bltn F hg (by decide) ?_)
  show wpAny _ _ (callWith pos (.builtin "isinstance") [] _ _) _ _ _
  refine Calls.callWith_builtin (star_plain pos env [z, .Name u p'] (by rw [List.all_cons, hz]; rfl)) ?_
  have e : backTo pos (starEach [z, .Name u p'] env) = (false, eval z env) :: [(false, eval (.Name u p') env)] := by
    rw [starEach_cons hz]; rfl
  rw [e]
  refine Calls.evalArgs_plain (Calls.spliced_cons ((ha F).weak _ X _ E hW (fun v va s₁ h₁ r₁ k₁ _ => ?_) hX))
  have F₁ := F.keeps k₁
  cases r₁ with
  | exc n1 n2 r =>
    rename_i x k _
    obtain ⟨C0, o, vs, m, g1, g2, g3, g4, g5⟩ := r
    obtain ⟨hk, hq⟩ := h₁
    have hm : m (Str.ofString k) = G.mg (Str.ofString k) := by
      obtain ⟨o1, es1, ep1, a1, d1, _, f1⟩ := g4
      obtain ⟨o2, es2, ep2, a2, d2, _, f2⟩ := F₁.top.g
      rw [a1] at a2; cases a2
      rw [d1] at d2; cases d2
      rw [← f1, ← f2]
    rw [hm] at g5
    have hkx : k ∈ G.xs := (F₁.top.exn k (by simpa using hk)).resolve_right fun q => by rw [g5] at q; cases q
    obtain ⟨C, bm, N, nm, q, bs, hdct, sn, sub, ab, col, dd, k0, k1, k2, k3, k5, mN, c1, c2, c3, c4, c5, c6, c7⟩ := F₁.top.ex k hkx
    rw [g5] at c1; cases c1
    by_cases htv : t = "ValueError"
    · subst htv
      refine Calls.spliced_cons (ld_bltn F₁ ht (by decide) (Calls.spliced_nil ?_))
      have hs : subX k "ValueError" = true := by unfold subX; rw [hk]; simp
      rw [hs] at hq
      exact call_isi_ve c2 c7 g1 g2 (hK _ _ _ hq (.bool _) k₁ nofun)
    · obtain ⟨D, bm', N', nm', q', bs', hdct', sn', sub', ab', col', dd', k0', k1', k2', k3', k5', mN', d1, d2, d3, d4, d5, d6, d7⟩ := F₁.top.ex t (htx.resolve_right htv)
      refine Calls.spliced_cons (ld_glob F₁ ht d1 (Calls.spliced_nil ?_))
      exact call_isi_own c2 d2 c7 g1 g2 (c6 t (htx.resolve_right htv) D d1) fun t' => hK _ _ _ hq (.bool _) (k₁.trans (Kp.tok _ _)) nofun
  | _ => exact h₁.elim
end
end Mine
end

section
set_option autoImplicit false
namespace Mine
open PySem

theorem tbl_mem {tbl : Tbl} : ∀ {f : String}, (tbl.map (·.1)).contains f = true → ∃ fn, tbl.lookup f = some fn := by
  induction tbl with
  | nil => intro f h; simp at h
  | cons p r ih =>
    intro f h
    obtain ⟨n, fn⟩ := p
    simp only [List.lookup_cons]
    cases e : f == n with
    | true => exact ⟨_, rfl⟩
    | false =>
      refine ih ?_
      simp only [List.map_cons, List.contains_cons, e, Bool.false_or] at h
      exact h

section
variable {G : PG} {d : Nat}

theorem both {c : Sc} {e : E} {x : Expr} (h1 : SE G d c e x) (h2 : ∀ (env : Env) (w : Sem Value), isTrue x env w = (do let v ← w; standAt x.pos; holding [v] (truthy v))) : SE G d c e x ∧ ST G d c e x := ⟨h1, st_of h1 h2⟩

mutual
theorem sndE (hc : CallSnd G d) : ∀ (e : E) (c : Sc) (x : Expr), c.fns = G.tbl.map (·.1) ∧ c.xs = G.xs ∧ c.hots = G.hots → chkE c e x = true → SE G d c e x ∧ ST G d c e x
  | .none, c, x, hf, h => by
    replace h := onConst_inv h; obtain ⟨v, kk, pp, rfl, h⟩ := h
    have e := of_decide_eq_true h
    subst e
    · exact both (fun {A env lay Sys base st s} F Q X K E hW hK hX => by
        simp only [we_0, we_1, we_2, we_3, we_4, we_5, we_6, we_7, we_8, we_9, we_10, we_11, we_12, we_13, we_14, we_15, we_16, we_17, we_18, we_19, we_20, we_21, we_22, we_23, we_24, we_25, we_26, we_27, we_28, we_29, we_30, we_31, we_32, we_33, we_34, we_35, we_36, we_37] at hW; exact snd_none Q X K E hW hK hX) fun _ _ => rfl
  | .bool b, c, x, hf, h => by
    replace h := onConst_inv h; obtain ⟨v, kk, pp, rfl, h⟩ := h
    have e := of_decide_eq_true h
    subst e
    · exact both (fun {A env lay Sys base st s} F Q X K E hW hK hX => by
        simp only [we_0, we_1, we_2, we_3, we_4, we_5, we_6, we_7, we_8, we_9, we_10, we_11, we_12, we_13, we_14, we_15, we_16, we_17, we_18, we_19, we_20, we_21, we_22, we_23, we_24, we_25, we_26, we_27, we_28, we_29, we_30, we_31, we_32, we_33, we_34, we_35, we_36, we_37] at hW; exact snd_bool Q X K E hW hK hX) fun _ _ => rfl
  | .int i, c, x, hf, h => by
    replace h := onConst_inv h; obtain ⟨v, kk, pp, rfl, h⟩ := h
    have e := of_decide_eq_true h
    subst e
    · exact both (fun {A env lay Sys base st s} F Q X K E hW hK hX => by
        simp only [we_0, we_1, we_2, we_3, we_4, we_5, we_6, we_7, we_8, we_9, we_10, we_11, we_12, we_13, we_14, we_15, we_16, we_17, we_18, we_19, we_20, we_21, we_22, we_23, we_24, we_25, we_26, we_27, we_28, we_29, we_30, we_31, we_32, we_33, we_34, we_35, we_36, we_37] at hW; exact snd_int Q X K E hW hK hX) fun _ _ => rfl
  | .str u, c, x, hf, h => by
    replace h := onConst_inv h; obtain ⟨v, kk, pp, rfl, h⟩ := h
    · simp only [Bool.and_eq_true, decide_eq_true_eq] at h
      obtain ⟨⟨rfl, h1⟩, h2⟩ := h
      have h : (True ∧ u.length ≤ sizeLine) ∧ u.cps.all (· < 0x110000) = true := ⟨⟨trivial, h1⟩, h2⟩
      have ho : SOk u := ⟨h.1.2, fun c hc => by
        have := h.2
        rw [← Array.all_toList, List.all_eq_true] at this
        simpa using this c hc⟩
      exact both (fun {A env lay Sys base st s} F Q X K E hW hK hX => by
        simp only [we_0, we_1, we_2, we_3, we_4, we_5, we_6, we_7, we_8, we_9, we_10, we_11, we_12, we_13, we_14, we_15, we_16, we_17, we_18, we_19, we_20, we_21, we_22, we_23, we_24, we_25, we_26, we_27, we_28, we_29, we_30, we_31, we_32, we_33, we_34, we_35, we_36, we_37] at hW; exact snd_str ho Q X K E hW hK hX) fun _ _ => rfl
  | .var i, c, x, hf, h => by
    replace h := onName_inv h; obtain ⟨y, p, rfl, h⟩ := h
    · exact both (fun {A env lay Sys base st s} F => se_var F h) fun _ _ => rfl
  | .glob g, c, x, hf, h => by
    replace h := onName_inv h; obtain ⟨y, p, rfl, h⟩ := h
    · exact both (fun {A env lay Sys base st s} F => se_glob F h) fun _ _ => rfl
  | .bin op a b, c, x, hf, h => by
    replace h := onBin_inv h; obtain ⟨l, o, r, p, rfl, h⟩ := h
    · simp only [Bool.and_eq_true, decide_eq_true_eq] at h
      obtain ⟨⟨rfl, ha⟩, hb⟩ := h
      exact both (fun {A env lay Sys base st s} F => se_bin F (sndE hc a c _ hf ha).1 (sndE hc b c _ hf hb).1) fun _ _ => rfl
  | .neg a, c, x, hf, h => by
    replace h := onUn_inv h; obtain ⟨o, y, p, rfl, h⟩ := h
    · simp only [Bool.and_eq_true, decide_eq_true_eq] at h
      obtain ⟨rfl, ha⟩ := h
      exact both (fun {A env lay Sys base st s} F => se_neg F (sndE hc a c _ hf ha).1) fun _ _ => rfl
  | .not a, c, x, hf, h => by
    replace h := onUn_inv h; obtain ⟨o, y, p, rfl, h⟩ := h
    · simp only [Bool.and_eq_true, decide_eq_true_eq] at h
      obtain ⟨rfl, ha⟩ := h
      exact ⟨fun {A env lay Sys base st s} F => se_not F (sndE hc a c _ hf ha).1, st_not (sndE hc a c _ hf ha).2⟩
  | .and a b, c, x, hf, h => by
    replace h := onBool_inv h; obtain ⟨o, ys, p, rfl, h⟩ := h
    replace h := (Bool.and_eq_true _ _).mp h; obtain ⟨h1, h2⟩ := h
    have e := of_decide_eq_true h1
    subst e
    rcases andT_inv h2 with ⟨y, z, rfl, ha, hb⟩ | ⟨y, z, u, r, rfl, ha, hb⟩
    · exact ⟨fun {A env lay Sys base st s} F => se_and F (sndE hc a c _ hf ha).1 (sndE hc b c _ hf hb).1, st_and2 (sndE hc a c _ hf ha).2 (sndE hc b c _ hf hb).2⟩
    · exact ⟨fun {A env lay Sys base st s} F => se_andN F (sndE hc a c _ hf ha).1 (sndE hc b c _ hf hb).1, st_and (sndE hc a c _ hf ha).2 (sndE hc b c _ hf hb).2⟩
  | .or a b, c, x, hf, h => by
    replace h := onBool_inv h; obtain ⟨o, ys, p, rfl, h⟩ := h
    replace h := (Bool.and_eq_true _ _).mp h; obtain ⟨h1, h2⟩ := h
    have e := of_decide_eq_true h1
    subst e
    rcases andT_inv h2 with ⟨y, z, rfl, ha, hb⟩ | ⟨y, z, u, r, rfl, ha, hb⟩
    · exact ⟨fun {A env lay Sys base st s} F => se_or F (sndE hc a c _ hf ha).1 (sndE hc b c _ hf hb).1, st_or2 (sndE hc a c _ hf ha).2 (sndE hc b c _ hf hb).2⟩
    · exact ⟨fun {A env lay Sys base st s} F => se_orN F (sndE hc a c _ hf ha).1 (sndE hc b c _ hf hb).1, st_or (sndE hc a c _ hf ha).2 (sndE hc b c _ hf hb).2⟩
  | .ite t a b, c, x, hf, h => by
    replace h := onIf_inv h; obtain ⟨y, z, u, p, rfl, h⟩ := h
    · simp only [Bool.and_eq_true] at h
      obtain ⟨⟨ht, ha⟩, hb⟩ := h
      exact ⟨fun {A env lay Sys base st s} F => se_ite F (sndE hc t c _ hf ht).2 (sndE hc a c _ hf ha).1 (sndE hc b c _ hf hb).1, st_ite (sndE hc t c _ hf ht).2 (sndE hc a c _ hf ha).2 (sndE hc b c _ hf hb).2⟩
  | .list es, c, x, hf, h => by
    replace h := onList_inv h; obtain ⟨xs, p, rfl, h⟩ := h
    · exact both (fun {A env lay Sys base st s} F => se_list F (sndEs hc es c _ hf h)) fun _ _ => rfl
  | .tup es, c, x, hf, h => by
    replace h := onTup_inv h; obtain ⟨xs, k, p, rfl, h⟩ := h
    · exact both (fun {A env lay Sys base st s} F => se_tup F (sndEs hc es c _ hf h)) fun _ _ => rfl
  | .cmp a ch, c, x, hf, h => by
    replace h := onCmp_inv h; obtain ⟨l, o, r, p, rfl, h⟩ := h
    · simp only [Bool.and_eq_true, Bool.not_eq_true'] at h
      obtain ⟨⟨hm, ha⟩, hb⟩ := h
      exact ⟨fun {A env lay Sys base st s} F => se_cmp F (sndE hc a c _ hf ha).1 (sndCh hc ch c _ _ hf hb) hm, st_cmp (sndE hc a c _ hf ha).1 (sndCh hc ch c _ _ hf hb) hm⟩
  | .sub a i, c, x, hf, h => by
    replace h := onSub_inv h; obtain ⟨y, z, p, rfl, h⟩ := h
    · simp only [Bool.and_eq_true] at h
      obtain ⟨⟨ha, hi⟩, hp⟩ := h
      exact both (fun {A env lay Sys base st s} F => se_sub F (sndE hc a c _ hf ha).1 (sndE hc i c _ hf hi).1 hp) fun _ _ => rfl
  | .slice a lo hi, c, x, hf, h => by
    replace h := onSub_inv h; obtain ⟨y, z, p, rfl, h⟩ := h
    replace h := onSlice_inv h; obtain ⟨l, h', sp, p', rfl, h⟩ := h
    · simp only [Bool.and_eq_true] at h
      obtain ⟨⟨⟨hsn, ha⟩, hl⟩, hh⟩ := h
      cases sp with
      | some _ => exact ff hsn
      | none =>
      have p1 : SP G d c lo l := by
        cases l with
        | none => cases lo <;> first | rfl | exact ff hl
        | some l => exact (sndE hc lo c _ hf hl).1
      have p2 : SP G d c hi h' := by
        cases h' with
        | none => cases hi <;> first | rfl | exact ff hh
        | some l => exact (sndE hc hi c _ hf hh).1
      exact both (fun {A env lay Sys base st s} F => se_slice F (sndE hc a c _ hf ha).1 p1 p2) fun _ _ => rfl
  | .call f es, c, x, hf, h => by
    replace h := onCallN_inv h; obtain ⟨y, p, xs, q, rfl, h⟩ := h
    · simp only [Bool.and_eq_true] at h
      obtain ⟨⟨⟨h0, hg⟩, hm⟩, hs⟩ := h
      obtain ⟨z, r, rfl⟩ := some1_inv h0
      exact both (fun {A env lay Sys base st s} F => se_call hc F hg (sndEs hc es c _ hf hs) (tbl_mem (hf.1 ▸ hm)) hm hf.2.2) fun _ _ => rfl
  | .isinst a t, c, x, hf, h => by
    replace h := onCallN_inv h; obtain ⟨y, p, xs, q, rfl, h⟩ := h
    replace h := two_inv h; obtain ⟨z, n, rfl, h⟩ := h
    replace h := onName_inv h; obtain ⟨u, p', rfl, h⟩ := h
    · simp only [Bool.and_eq_true] at h
      obtain ⟨⟨⟨⟨hg, hz⟩, ha⟩, ht⟩, hp⟩ := h
      exact both (fun {A env lay Sys base st s} F => se_isi F hg hz (sndE hc a c _ hf ha).1 ht (tyNames hp).1 (tyNames hp).2) fun _ _ => rfl
  | .len a, c, x, hf, h => by
    replace h := onCallN_inv h; obtain ⟨y, p, xs, q, rfl, h⟩ := h
    replace h := one_inv h; obtain ⟨z, rfl, h⟩ := h
    · simp only [Bool.and_eq_true] at h
      obtain ⟨⟨hg, hz⟩, ha⟩ := h
      exact both (fun {A env lay Sys base st s} F => se_len F hg hz (sndE hc a c _ hf ha).1) fun _ _ => rfl
  | .sum a, c, x, hf, h => ff h
  | .max2 a b, c, x, hf, h => ff h
  | .min2 a b, c, x, hf, h => ff h
  | .maxl a, c, x, hf, h => ff h
  | .maxd a b, c, x, hf, h => ff h
  | .strOf a, c, x, hf, h => by
    replace h := onCallN_inv h; obtain ⟨y, p, xs, q, rfl, h⟩ := h
    replace h := one_inv h; obtain ⟨z, rfl, h⟩ := h
    simp only [Bool.and_eq_true] at h
    obtain ⟨⟨hg, hz⟩, ha⟩ := h
    exact both (fun {A env lay Sys base st s} F => se_str F hg hz (sndE hc a c _ hf ha).1) fun _ _ => rfl
  | .intOf a, c, x, hf, h => by
    replace h := onCallN_inv h; obtain ⟨y, p, xs, q, rfl, h⟩ := h
    replace h := one_inv h; obtain ⟨z, rfl, h⟩ := h
    simp only [Bool.and_eq_true] at h
    obtain ⟨⟨hg, hz⟩, ha⟩ := h
    exact both (fun {A env lay Sys base st s} F => se_int F hg hz (sndE hc a c _ hf ha).1) fun _ _ => rfl
  | .tupOf a, c, x, hf, h => by
    replace h := onCallN_inv h; obtain ⟨y, p, xs, q, rfl, h⟩ := h
    replace h := one_inv h; obtain ⟨z, rfl, h⟩ := h
    simp only [Bool.and_eq_true] at h
    obtain ⟨⟨hg, hz⟩, ha⟩ := h
    exact both (fun {A env lay Sys base st s} F => se_tupOf F hg hz (sndE hc a c _ hf ha).1) fun _ _ => rfl
  | .listOf it, c, x, hf, h => ff h
  | .join sp a, c, x, hf, h => by
    replace h := onCall_inv h; obtain ⟨g, xs, ks, pos, rfl, h⟩ := h
    replace h := (Bool.and_eq_true _ _).mp h; obtain ⟨hks, h⟩ := h
    replace h := one_inv h; obtain ⟨z, rfl, h⟩ := h
    replace h := onAttr_inv h; obtain ⟨o, n, ap, rfl, h⟩ := h
    simp only [Bool.and_eq_true, decide_eq_true_eq] at h
    obtain ⟨⟨⟨⟨⟨rfl, hz⟩, hl⟩, hs⟩, hst⟩, ha⟩ := h
    cases ks with
    | cons => exact ff hks
    | nil =>
    cases sp with
    | str u =>
      replace hs := onConst_inv hs; obtain ⟨v, kk, pp, rfl, hs⟩ := hs
      simp only [Bool.and_eq_true, decide_eq_true_eq] at hs
      obtain ⟨⟨rfl, h1⟩, h2⟩ := hs
      have ho : SOk u := ⟨h1, fun c hc => by
        have := h2
        rw [← Array.all_toList, List.all_eq_true] at this
        simpa using this c hc⟩
      exact both (fun {A env lay Sys base st s} F => se_join F hl ho hz (sndE hc a c _ hf ha).1) fun _ _ => rfl
    | _ => exact ff hst
  | .get a b e, c, x, hf, h => ff h
  | .dict0, c, x, hf, h => ff h
  | .isexc a t, c, x, hf, h => by
    replace h := onCallN_inv h; obtain ⟨y, p, xs, q, rfl, h⟩ := h
    replace h := two_inv h; obtain ⟨z, n, rfl, h⟩ := h
    replace h := onName_inv h; obtain ⟨u, p', rfl, h⟩ := h
    · simp only [Bool.and_eq_true, Bool.or_eq_true, decide_eq_true_eq] at h
      obtain ⟨⟨⟨⟨hg, hz⟩, ha⟩, ht⟩, hp⟩ := h
      exact both (fun {A env lay Sys base st s} F => se_isexc F hg hz (sndE hc a c _ hf ha).1 ht (hp.imp (fun q => by rw [← hf.2.1]; simpa using q) id)) fun _ _ => rfl
  | .only a, c, x, hf, h => ff h
  | .attr a n, c, x, hf, h => ff h
  | .new f es, c, x, hf, h => ff h
  | .comp elt t it, c, x, hf, h => by
    replace h := onLC_inv h; obtain ⟨y, gs, sc, p, rfl, h⟩ := h
    replace h := one_inv h; obtain ⟨g, rfl, h⟩ := h
    replace h := (Bool.and_eq_true _ _).mp h; obtain ⟨h0, h⟩ := h
    replace h0 := (Bool.and_eq_true _ _).mp h0; obtain ⟨hz, h0⟩ := h0
    obtain ⟨tg, iter, ifs, ias⟩ := g
    have e0 := of_decide_eq_true h0
    simp only at hz e0 h
    cases ifs with
    | cons => exact ff hz
    | nil =>
    subst e0
    split at h
    · rename_i xs hx
      have hf' : (inner c xs sc.names).fns = G.tbl.map (·.1) ∧ (inner c xs sc.names).xs = G.xs ∧ (inner c xs sc.names).hots = G.hots := hf
      simp only [Bool.and_eq_true, Bool.not_eq_true'] at h
      obtain ⟨⟨⟨⟨⟨⟨h1, h2⟩, h3⟩, h4⟩, h0⟩, h5⟩, h6⟩ := h
      exact both (fun {A env lay Sys base st s} F => se_comp F ((sndI hc it c _ hf h5).1 (ezOk_walk h0)) h4 (ezOk_inv h0) (tableOk_eq h2) h1 h3 (sndE hc elt _ _ hf' h6).1) fun _ _ => rfl
    · cases h
  | .compIf elt t it cd, c, x, hf, h => ff h
theorem sndEs (hc : CallSnd G d) : ∀ (es : Es) (c : Sc) (xs : List Expr), c.fns = G.tbl.map (·.1) ∧ c.xs = G.xs ∧ c.hots = G.hots → chkEs c es xs = true → SEs G d c es xs
  | .nil, c, xs, hf, h => by
    cases xs with
    | nil => exact ses_nil
    | cons => exact ff h
  | .cons e es, c, xs, hf, h => by
    cases xs with
    | nil => exact ff h
    | cons x r =>
      replace h := (Bool.and_eq_true _ _).mp h; obtain ⟨h, h3⟩ := h
      replace h := (Bool.and_eq_true _ _).mp h; obtain ⟨h1, h2⟩ := h
      exact ses_cons h1 (sndE hc e c _ hf h2).1 (sndEs hc es c _ hf h3)
theorem sndCh (hc : CallSnd G d) : ∀ (ch : Ch) (c : Sc) (ops : List CmpOp) (xs : List Expr), c.fns = G.tbl.map (·.1) ∧ c.xs = G.xs ∧ c.hots = G.hots → chkCh c ch ops xs = true → SCh G d c ch ops xs
  | .one op e, c, ops, xs, hf, h => by
    replace h := one_inv h; obtain ⟨o, rfl, h⟩ := h
    replace h := one_inv h; obtain ⟨x, rfl, h⟩ := h
    replace h := (Bool.and_eq_true _ _).mp h; obtain ⟨h1, h2⟩ := h
    have e1 := of_decide_eq_true h1
    subst e1
    exact sch_one (sndE hc e c _ hf h2).1
  | .more op e ch, c, ops, xs, hf, h => by
    rcases ops with _ | ⟨o, ops⟩
    · exact ff h
    rcases xs with _ | ⟨x, xs⟩
    · exact ff h
    replace h := (Bool.and_eq_true _ _).mp h; obtain ⟨h, h3⟩ := h
    replace h := (Bool.and_eq_true _ _).mp h; obtain ⟨h, h2⟩ := h
    replace h := (Bool.and_eq_true _ _).mp h; obtain ⟨h, h1⟩ := h
    replace h := (Bool.and_eq_true _ _).mp h; obtain ⟨ha, hb⟩ := h
    have e1 := of_decide_eq_true h1
    subst e1
    obtain ⟨o2, ops, rfl⟩ := some1_inv ha
    obtain ⟨x2, xs, rfl⟩ := some1_inv hb
    exact sch_more (sndE hc e c _ hf h2).1 (sndCh hc ch c _ _ hf h3)
theorem sndI (hc : CallSnd G d) : ∀ (it : It) (c : Sc) (x : Expr), c.fns = G.tbl.map (·.1) ∧ c.xs = G.xs ∧ c.hots = G.hots → chkI c it x = true → (walk it = true → SI G d c it x) ∧ (listable it = true → c.hot = false → SL G d c it x)
  | .seq e, c, x, hf, h => by
    exact ⟨fun _ => si_seq (sndE hc e c _ hf h).1,
      fun q => ff q⟩
  | .rev e, c, x, hf, h => ff h
  | .range1 e, c, x, hf, h => by
    replace h := onCallN_inv h; obtain ⟨y, p, xs, q, rfl, h⟩ := h
    replace h := one_inv h; obtain ⟨z, rfl, h⟩ := h
    · simp only [Bool.and_eq_true] at h
      obtain ⟨⟨h1, h2⟩, h3⟩ := h
      exact ⟨fun _ => si_range1 h1 h2 (sndE hc e c _ hf h3).1,
        fun q => ff q⟩
  | .range2 a b, c, x, hf, h => ff h
  | .range3 a b e, c, x, hf, h => ff h
  | .enum e, c, x, hf, h => ff h
  | .keys e, c, x, hf, h => ff h
  | .zip a b, c, x, hf, h => ff h
end
end

end Mine
end

section
set_option autoImplicit false
namespace Mine
open PySem

/-- the tracked things grew by new ones -/
structure Gr (H H' : AH) (s : Shared) : Prop where
  stay : ∀ b, H b ≠ none → H' b = H b
  new : ∀ b, H' b ≠ none → H b = none → s.heap.get? b = none
theorem Gr.refl (H : AH) (s : Shared) : Gr H H s := ⟨fun _ _ => rfl, fun _ h e => absurd e h⟩
theorem Gr.trans {Z : Addr → Prop} {H H' H'' : AH} {s s' : Shared} (x : Gr H H' s) (y : Gr H' H'' s') (k : Kp Z s s') : Gr H H'' s where
  stay := fun b h => by
    have := x.stay b h
    rw [y.stay b (by rw [this]; exact h), this]
  new := fun b h e => by
    cases q : H' b with
    | none => exact fresh_keeps k (y.new b h q)
    | some o => exact x.new b (by rw [q]; simp) e
theorem upd_self (H : AH) (a : Nat) (o : AO) : H.upd a o a = some o := by simp [AH.upd]
theorem upd_other (H : AH) {a b : Nat} (o : AO) (h : b ≠ a) : H.upd a o b = H b := by simp [AH.upd, h]

theorem RV.grow {H H' : AH} {Sys Z : Addr → Prop} {s s' : Shared} {v : V} {x : Value} (zs : ∀ b, Z b → Sys b) (r : RV (NN H Sys) s.heap v x) (g : Gr H H' s) (k : HW Z s.heap s'.heap) : RV (NN H' Sys) s'.heap v x :=
  r.gen (fun b q => by
    rcases q with q | q
    · cases e : H b with
      | none => exact .inr (g.new b q e)
      | some o => exact .inl (.inl (by rw [e]; simp))
    · exact .inl (.inr q)) fun b o nb e => (k b o e).1 fun q => nb (.inr (zs b q))
/-- a new thing is tracked from now on -/
theorem Sim.track {hsh : HFn} {T : Heap → Prop} {lay : Nat → Option Place} {Sys Z : Addr → Prop} {base : Heap} {st : St} {s s' : Shared} {a : Addr} {o : AO} (S : Sim hsh T lay Sys Z base st s.heap) (k : HW Z s.heap s'.heap) (hf : s.heap.get? a = none) (ro : RO hsh (NN (st.H.upd a o) Sys) s'.heap a o) :
    Sim hsh T lay Sys Z base { st with H := st.H.upd a o } s'.heap := by
  have hfa : st.H a = none := S.fresh hf
  have g : Gr st.H (st.H.upd a o) s := ⟨fun b h => upd_other _ _ (fun e => h (e ▸ hfa)), fun b h e => by
    by_cases q : b = a
    · subst q; exact hf
    · rw [upd_other _ _ q] at h; exact absurd e h⟩
  have hN : ∀ b, NN (st.H.upd a o) Sys b → NN st.H Sys b ∨ s.heap.get? b = none := fun b q => by
    rcases q with q | q
    · cases e : st.H b with
      | none => exact .inr (g.new b q e)
      | some o => exact .inl (.inl (by rw [e]; simp))
    · exact .inl (.inr q)
  refine ⟨S.keep.trans k, S.zs, S.top, fun i v p a' b => ?_, fun i p a => (S.ok i p a).kz k, S.inj, fun i p h => ?_, fun b o' e => ?_, fun b h hB => ?_, (S.kz k).live, S.ent, fun b q => (upd_other _ _ fun e : b = a => S.live b q (by rw [e]; exact hf)).trans (S.dis b q)⟩
  · obtain ⟨val, x, y⟩ := S.vals i v p a' b
    exact ⟨val, x.kz k, y.grow S.zs g k⟩
  · have hs := S.sys i p h
    refine ⟨hs.1, hs.2.1, ?_⟩
    show st.H.upd a o p.addr = none
    rw [upd_other _ _ (fun e : p.addr = a => S.live _ hs.1 (by rw [e]; exact hf))]; exact hs.2.2
  · by_cases q : b = a
    · subst q
      have e : st.H.upd b o b = some o' := e
      rw [upd_self] at e; cases e; exact ro
    · have e : st.H.upd a o b = some o' := e
      rw [upd_other _ _ q] at e
      exact (S.objs b o' e).gen hN (fun b o nb e => (k b o e).1 fun q => nb (.inr (S.zs b q))) fun o e'' => (k b o e'').1 fun q => by rw [S.dis b (S.zs b q)] at e; cases e
  · by_cases q : b = a
    · subst q
      exact S.keep.ext hf
    · have h : st.H.upd a o b ≠ none := h
      rw [upd_other _ _ q] at h; exact S.own b h hB

theorem Sim.freshB {hsh : HFn} {T : Heap → Prop} {lay : Nat → Option Place} {Sys Z : Addr → Prop} {base : Heap} {st : St} {h : Heap} (S : Sim hsh T lay Sys Z base st h) {a : Addr} (e : h.get? a = none) : st.B a = none := by
  cases q : st.B a with
  | none => rfl
  | some o =>
    obtain ⟨ob, e'⟩ := S.ent a (by rw [q]; simp)
    rw [S.keep.ext e] at e'; cases e'

section
variable {G : PG} {d : Nat} {c : Sc} {A : Around} {env : Env} {lay : Nat → Option Place} {Sys : Addr → Prop} {base : Heap} {st : St} {s : Shared}

noncomputable abbrev SA (G : PG) (d : Nat) (c : Sc) (a : Mine.A) (x : Expr) : Prop :=
  ∀ {A : Around} {env : Env} {lay : Nat → Option Place} {Sys : Addr → Prop} {base : Heap} {st : St} {s : Shared}, Fx G d c A env lay Sys base st s →
    ∀ (Q : V → AH → Prop) (X : String → Prop) (K : Value → Shared → Prop) (E : Value → Shared → Prop), WA (G.cx d) a st Q X →
      (∀ v H' val s', Q v H' → Fx G d c A env lay Sys base { st with H := H' } s' → RV (NN H' Sys) s'.heap v val → Kp (FZ A Sys) s s' → Gr st.H H' s → K val s') → (∀ e s', Rz G.mg A Sys s X e s' → E e s') →
      wpAny (model G.prog G.w) A (eval x env) K E s

noncomputable abbrev SAs (G : PG) (d : Nat) (c : Sc) (as : As) (xs : List Expr) : Prop :=
  xs.all noStar = true ∧ ∀ {A : Around} {env : Env} {lay : Nat → Option Place} {Sys : Addr → Prop} {base : Heap} {st : St} {s : Shared}, Fx G d c A env lay Sys base st s →
    ∀ (pos : Pos) (Q : List V → AH → Prop) (X : String → Prop) (K : List Value → Shared → Prop) (E : Value → Shared → Prop), WAs (G.cx d) as st Q X →
      (∀ vs H' vals s', Q vs H' → Fx G d c A env lay Sys base { st with H := H' } s' → RVs (NN H' Sys) s'.heap vs vals → Kp (FZ A Sys) s s' → Gr st.H H' s → K vals s') → (∀ e s', Rz G.mg A Sys s X e s' → E e s') →
      wpAny (model G.prog G.w) A (spliced (backTo pos (starEach xs env))) K E s

theorem sa_pure {e : E} {x : Expr} (he : SE G d c e x) : SA G d c (.pure e) x := by
  intro A env lay Sys base st s F Q X K E hW hK hX
  simp only [wa_0, wa_1, wa_2, wa_3, wa_4, wa_5] at hW
  exact (he F).weak _ X _ E hW (fun v val s' q r k _ => hK v st.H val s' q (F.keeps k) r k (Gr.refl _ _)) hX
theorem sa_thaw {e : E} {x : Expr} (he : SE G d c e x) (hf : isFresh e = true) : SA G d c (.thaw e) x := by
  intro A env lay Sys base st s F Q X K E hW hK hX
  simp only [wa_0, wa_1, wa_2, wa_3, wa_4, wa_5] at hW
  refine he F _ X _ E hW (fun v val s' q r k fr => ?_) hX
  split at q
  · rename_i vs
    cases r with
    | lst h1 h2 h3 h4 =>
      rename_i a xs n
      obtain ⟨hfa, hv⟩ := fr hf a rfl
      obtain ⟨ys, m, hl, hz, hr⟩ := hv vs rfl
      have S' := F.sim.track (o := .list vs) k.hw hfa (.list hl hz (hr.less fun b q => by
        rcases q with q | q
        · by_cases e : b = a
          · exact .inr e
          · rw [upd_other _ _ e] at q; exact .inl (.inl q)
        · exact .inl (.inr q)))
      refine hK _ _ _ _ (q a ⟨F.sim.fresh hfa, F.sim.freshB hfa⟩) ⟨⟨F.rm, F.eo, F.us, S', F.own, F.cold⟩, F.fr.kz k.hw, F.hd.imp id fun q => q.kz k.hw⟩ (.ref a) k ⟨fun b h => upd_other _ _ (fun e => h (e ▸ F.sim.fresh hfa)), fun b h e => ?_⟩
      by_cases q : b = a
      · subst q; exact hfa
      · rw [upd_other _ _ q] at h; exact absurd e h
  · exact q.elim
theorem sa_callO (hc : CallSnd G d) {f : String} {es : Es} {y : Str} {p pos : Pos} {z : Expr} {xs : List Expr} (hg : isGlob c y f = true) (h : SEs G d c es (z :: xs)) (hf : ∃ fn, G.tbl.lookup f = some fn) (hfn0 : c.fns.contains f = true) (hho : c.hots = G.hots) : SA G d c (.callO f es) (.Call (.Name y p) (z :: xs) [] pos) := by
  intro A env lay Sys base st s F Q X K E hW hK hX
  simp only [wa_0, wa_1, wa_2, wa_3, wa_4, wa_5] at hW
  refine call_raw hc F hg h hf hfn0 hho _ X K E hW (fun v val H' Sys' s' q g r k => ?_) hX
  obtain ⟨a, ws, xs, n, q, rfl, hfa, hl, hz, hr⟩ := give_ok g q r
  have S' := F.sim.track (o := .list ws) k.hw hfa (.list hl hz (hr.less fun b q => by
    rcases q with q | q
    · by_cases e : b = a
      · exact .inr e
      · rw [upd_other _ _ e] at q; exact .inl (.inl q)
    · exact .inl (.inr q)))
  refine hK _ _ _ _ (q a ⟨F.sim.fresh hfa, F.sim.freshB hfa⟩) ⟨⟨F.rm, F.eo, F.us, S', F.own, F.cold⟩, F.fr.kz k.hw, F.hd.imp id fun q => q.kz k.hw⟩ (.ref a) k ⟨fun b h => upd_other _ _ (fun e => h (e ▸ F.sim.fresh hfa)), fun b h e => ?_⟩
  by_cases q : b = a
  · subst q; exact hfa
  · rw [upd_other _ _ q] at h; exact absurd e h
theorem sas_nil : SAs G d c .nil [] :=
  ⟨rfl, fun {A env lay Sys base st s} F pos Q X K E hW hK _ => wpAny_items_nil (hK [] st.H [] s (by simpa [was_0, was_1] using hW) F .nil (Kp.refl s) (Gr.refl _ _))⟩
theorem sas_cons {a : Mine.A} {as : As} {x : Expr} {xs : List Expr} (hn : noStar x = true) (ha : SA G d c a x) (has : SAs G d c as xs) : SAs G d c (.cons a as) (x :: xs) := by
  refine ⟨by simp [hn, has.1], fun {A env lay Sys base st s} F pos Q X K E hW hK hX => ?_⟩
  simp only [was_0, was_1] at hW
  refine wpAny_items_cons (ha F _ X _ E hW (fun v H' va s₁ h₁ F₁ r₁ k₁ g₁ => ?_) hX) (starEach_cons hn)
  exact has.2 F₁ pos _ X _ E h₁ (fun vs H'' vals s' q F' r k g => hK (v :: vs) H'' (va :: vals) s' q F' (.cons (r₁.grow F.sim.zs g k.hw) r) (k₁.trans k) (g₁.trans g k₁)) fun e s' q => hX e s' (Rz.trans k₁ q)
theorem sa_list {as : As} {xs : List Expr} {pos : Pos} (h : SAs G d c as xs) : SA G d c (.list as) (.List xs pos) := by
  intro A env lay Sys base st s F Q X K E hW hK hX
  simp only [wa_0, wa_1, wa_2, wa_3, wa_4, wa_5] at hW
  refine wpAny_List (h.2 F pos _ X _ E hW (fun vs H' vals s₁ h₁ F₁ r₁ k₁ g₁ => ?_) hX)
  have hl := r₁.length
  have hf := fresh_size s₁.heap
  refine ⟨by rw [← hl]; exact h₁.1, ?_⟩
  have hu : ∀ b, (H'.upd s₁.heap.objs.size (.list vs)) b ≠ none → H' b = none → s₁.heap.get? b = none := fun b hb e => by
    by_cases q : b = s₁.heap.objs.size
    · rw [q]; exact hf
    · rw [upd_other _ _ q] at hb; exact absurd e hb
  have hfa : H' s₁.heap.objs.size = none := F₁.sim.fresh hf
  have r' : RVs (NN H' Sys) s₁.heap vs vals.toArray.toList := by simpa using r₁
  have S' := F₁.sim.track (s := s₁) (s' := { s₁ with heap := s₁.heap.push { cls := .type "list", data := .seq vals.toArray } }) (o := .list vs) (.of (HK.push _ _)) hf
    (.list (IsL.new _ _) (by simpa [← hl] using h₁.1) (r'.gen (fun b q => by
        rcases q with q | q
        · cases e : H' b with
          | none => exact .inr (hu b q e)
          | some o => exact .inl (.inl (by rw [e]; simp))
        · exact .inl (.inr q)) (fun b o _ e => HK.push _ _ b o e)))
  have g : Gr H' (H'.upd s₁.heap.objs.size (.list vs)) s₁ := ⟨fun b h => upd_other _ _ (fun e => h (e ▸ hfa)), hu⟩
  exact hK _ _ _ _ (h₁.2 _ hfa (F₁.sim.freshB hf)) ⟨⟨F.rm, F.eo, F.us, S', F.own, F.cold⟩, F₁.fr.kz (.of (Z := Sys) (HK.push _ _)), F₁.hd.imp id fun q => q.kz (.of (HK.push _ _))⟩ (.ref _) (k₁.trans (Kp.ofH (HK.push _ _))) (g₁.trans g k₁)
end

section
variable {G : PG} {d : Nat}
mutual
theorem sndA (hc : CallSnd G d) : ∀ (a : A) (c : Sc) (x : Expr), c.fns = G.tbl.map (·.1) ∧ c.xs = G.xs ∧ c.hots = G.hots → chkA c a x = true → SA G d c a x
  | .pure e, c, x, hf, h => sa_pure (sndE hc e c x hf h).1
  | .thaw e, c, x, hf, h => by
    replace h := (Bool.and_eq_true _ _).mp h
    exact sa_thaw (sndE hc e c x hf h.2).1 h.1
  | .list as, c, x, hf, h => by
    replace h := onList_inv h; obtain ⟨xs, p, rfl, h⟩ := h
    exact sa_list (sndAs hc as c _ hf h)
  | .dict, c, x, hf, h => ff h
  | .new f es, c, x, hf, h => ff h
  | .callO f es, c, x, hf, h => by
    replace h := onCallN_inv h; obtain ⟨y, p, xs, q, rfl, h⟩ := h
    simp only [Bool.and_eq_true] at h
    obtain ⟨⟨⟨h0, hg⟩, hm⟩, hs⟩ := h
    obtain ⟨z, r, rfl⟩ := some1_inv h0
    exact sa_callO hc hg (sndEs hc es c _ hf hs) (tbl_mem (hf.1 ▸ hm)) hm hf.2.2
theorem sndAs (hc : CallSnd G d) : ∀ (as : As) (c : Sc) (xs : List Expr), c.fns = G.tbl.map (·.1) ∧ c.xs = G.xs ∧ c.hots = G.hots → chkAs c as xs = true → SAs G d c as xs
  | .nil, c, xs, hf, h => by
    cases xs with
    | nil => exact sas_nil
    | cons => exact ff h
  | .cons a as, c, xs, hf, h => by
    cases xs with
    | nil => exact ff h
    | cons x r =>
      replace h := (Bool.and_eq_true _ _).mp h; obtain ⟨h, h3⟩ := h
      replace h := (Bool.and_eq_true _ _).mp h; obtain ⟨h1, h2⟩ := h
      exact sas_cons h1 (sndA hc a c _ hf h2) (sndAs hc as c _ hf h3)
end
end

end Mine
end

section
set_option autoImplicit false
namespace Mine
open PySem

/-- what a statement leaves as it was -/
structure Ps (q : Bool) (lay : Nat → Option Place) (Z : Addr → Prop) (st : St) (s : Shared) (st' : St) (s' : Shared) : Prop where
  sh : ∃ h' tk, s' = { s with heap := h', toks := tk }
  old : ∀ b o, st.H b = none → (∀ i p, lay i = some p → b ≠ p.addr) → s.heap.get? b = some o → (¬ Z b → s'.heap.get? b = some o) ∧ ∃ sl, s'.heap.get? b = some { o with slots := sl }
  new : ∀ b, st'.H b ≠ none → st.H b = none → s.heap.get? b = none
  stay : ∀ b, st.H b ≠ none → st'.H b ≠ none
  B : st'.B = st.B
  len : st'.ρ.length = st.ρ.length
  ext : ∀ b, s.heap.get? b ≠ none → s'.heap.get? b ≠ none
  qt : q = true → ∀ b o, (∀ i p, lay i = some p → b ≠ p.addr) → s.heap.get? b = some o → ¬ Z b → s'.heap.get? b = some o
section
variable {Z : Addr → Prop}
theorem Ps.weak {q q' : Bool} {lay : Nat → Option Place} {st st' : St} {s s' : Shared} (x : Ps q lay Z st s st' s') (h : q' = true → q = true) : Ps q' lay Z st s st' s' := ⟨x.sh, x.old, x.new, x.stay, x.B, x.len, x.ext, fun e => x.qt (h e)⟩
theorem Ps.refl {q : Bool} {lay : Nat → Option Place} {st : St} {s : Shared} : Ps q lay Z st s st s := ⟨⟨s.heap, s.toks, rfl⟩, fun _ o _ _ e => ⟨fun _ => e, o.slots, e⟩, fun _ h e => absurd e h, fun _ h => h, rfl, rfl, fun _ h => h, fun _ _ _ _ e _ => e⟩
theorem Ps.trans {q : Bool} {lay : Nat → Option Place} {st st₁ st₂ : St} {s s₁ s₂ : Shared} (x : Ps q lay Z st s st₁ s₁) (y : Ps q lay Z st₁ s₁ st₂ s₂) : Ps q lay Z st s st₂ s₂ where
  sh := by
    obtain ⟨h1, t1, rfl⟩ := x.sh
    obtain ⟨h2, t2, rfl⟩ := y.sh
    exact ⟨h2, t2, rfl⟩
  old := fun b o h hp e => by
    have h1 : st₁.H b = none := by
      cases q : st₁.H b with
      | none => rfl
      | some ob => rw [x.new b (by rw [q]; simp) h] at e; cases e
    refine ⟨fun n => (y.old b o h1 hp ((x.old b o h hp e).1 n)).1 n, ?_⟩
    obtain ⟨_, e1⟩ := (x.old b o h hp e).2
    obtain ⟨sl, e2⟩ := (y.old b _ h1 hp e1).2
    exact ⟨sl, e2⟩
  new := fun b h e => by
    cases q : st₁.H b with
    | some o => exact x.new b (by rw [q]; simp) e
    | none =>
      cases q' : s.heap.get? b with
      | none => rfl
      | some o => exact absurd (y.new b h q) (x.ext b (by rw [q']; simp))
  stay := fun b h => y.stay b (x.stay b h)
  B := y.B.trans x.B
  len := y.len.trans x.len
  ext := fun b h => y.ext b (x.ext b h)
  qt := fun e b o hp h n => y.qt e b o hp (x.qt e b o hp h n) n
theorem Ps.ofK {q : Bool} {lay : Nat → Option Place} {st : St} {H' : AH} {s s' : Shared} (k : Kp Z s s') (g : Gr st.H H' s) : Ps q lay Z st s { st with H := H' } s' where
  sh := let ⟨h', tk, e, _⟩ := k; ⟨h', tk, e⟩
  old := fun b o _ _ e => k.hw b o e
  new := g.new
  stay := fun b h => by show H' b ≠ none; rw [g.stay b h]; exact h
  B := rfl
  len := rfl
  ext := fun b h e => h (k.hw.ext e)
  qt := fun _ b o _ e n => (k.hw b o e).1 n
theorem Ps.ofKp {q : Bool} {lay : Nat → Option Place} {st : St} {s s' : Shared} (k : Kp Z s s') : Ps q lay Z st s st s' := Ps.ofK k (Gr.refl _ _)
theorem Ps.ofTc {q : Bool} {hsh : HFn} {T : Heap → Prop} {lay : Nat → Option Place} {Sys Z' : Addr → Prop} {base : Heap} {st : St} {ρ' : List (Option V)} {is : List Nat} {s : Shared} {h' : Heap} {tk : Nat} (S : Sim hsh T lay Sys Z' base { st with ρ := ρ' } h') (t : Tc is lay s.heap h') (hl : ρ'.length = st.ρ.length) :
    Ps q lay Z st s { st with ρ := ρ' } { s with heap := h', toks := tk } where
  sh := ⟨h', tk, rfl⟩
  old := fun b o _ hp e => have e' := t b o (fun i _ p hi => hp i p hi) e; ⟨fun _ => e', o.slots, e'⟩
  new := fun b h e => absurd e h
  stay := fun _ h => h
  B := rfl
  len := hl
  ext := fun b h e => by
    cases q : s.heap.get? b with
    | none => exact h q
    | some o =>
      by_cases hp : ∃ i p, lay i = some p ∧ b = p.addr
      · obtain ⟨i, p, hi, rfl⟩ := hp
        exact S.live _ (S.sys i p hi).1 e
      · have := t b o (fun i _ p hi hb => hp ⟨i, p, hi, hb⟩) q
        rw [show ({ s with heap := h', toks := tk } : Shared).heap = h' from rfl, this] at e; cases e
  qt := fun _ b o hp e _ => t b o (fun i _ p hi => hp i p hi) e
end
/-- the frames stand behind a statement -/
theorem FrOk.ps {q : Bool} {A : Around} {hsh : HFn} {T : Heap → Prop} {lay : Nat → Option Place} {Sys Z Z' : Addr → Prop} {base : Heap} {st st' : St} {s s' : Shared} (f : FrOk A Sys s.heap) (S : Sim hsh T lay Sys Z base st s.heap) (S' : Sim hsh T lay Sys Z base st' s'.heap) (p : Ps q lay Z' st s st' s') : FrOk A Sys s'.heap := by
  obtain ⟨_, l, e, f⟩ := f
  refine ⟨S'.live, l, e, fun v hv => ?_⟩
  obtain ⟨g1, L, o, g2, g3, g4, g5⟩ := f v hv
  by_cases hp : ∃ i pl, lay i = some pl ∧ L = pl.addr
  · obtain ⟨i, pl, hi, rfl⟩ := hp
    have hk := S'.ok i pl hi
    cases pl with
    | loc L x => obtain ⟨m, o', es, ep, e', d, _⟩ := hk; exact ⟨g1, L, o', g2, g3, e', fun vs q => by rw [d] at q; cases q⟩
    | cell c => obtain ⟨v', o', e', d⟩ := hk; exact ⟨g1, c, o', g2, g3, e', fun vs q => by rw [d] at q; cases q⟩
  · obtain ⟨sl, e'⟩ := (p.old L o (S.dis L g3) (fun i pl hi hb => hp ⟨i, pl, hi, hb⟩) g4).2
    exact ⟨g1, L, _, g2, g3, e', g5⟩

theorem HdOk.ps {q : Bool} {A : Around} {hsh : HFn} {T : Heap → Prop} {lay : Nat → Option Place} {Sys Z : Addr → Prop} {base : Heap} {st st' : St} {s s' : Shared} (f : HdOk A Sys s.heap) (S : Sim hsh T lay Sys Z base st s.heap) (p : Ps q lay (FZ A Sys) st s st' s') : HdOk A Sys s'.heap :=
  f.imp id fun ⟨y, o, vs, h1, h2, h3, h4⟩ => ⟨y, o, vs, h1, h2, (p.old y o (by
    cases q : st.H y with
    | none => rfl
    | some ob => exact ((S.objs y ob q).nofields h3 h4.1).elim) (fun i pl hp e => h2 (e ▸ (S.sys i pl hp).1)) h3).1 fun q => h2 q.2, h4⟩
theorem RV.ps {q : Bool} {hsh : HFn} {T : Heap → Prop} {lay : Nat → Option Place} {Sys Z : Addr → Prop} {base : Heap} {st st' : St} {s s' : Shared} {v : V} {x : Value} (r : RV (NN st.H Sys) s.heap v x) (S : Sim hsh T lay Sys Z base st s.heap) (p : Ps q lay Z st s st' s') : RV (NN st'.H Sys) s'.heap v x :=
  r.gen (fun b q => by
    rcases q with q | q
    · cases e : st.H b with
      | none => exact .inr (p.new b q e)
      | some o => exact .inl (.inl (by rw [e]; simp))
    · exact .inl (.inr q)) fun b o nb e => (p.old b o (by
      cases q : st.H b with
      | none => rfl
      | some o => exact absurd (.inl (by rw [q]; simp)) nb) (fun i pl hp hb => nb (.inr (hb ▸ (S.sys i pl hp).1))) e).1 fun q => nb (.inr (S.zs b q))

inductive FlR (N : Addr → Prop) (h : Heap) : Fl → Flow → Prop
  | next : FlR N h .next .next
  | brk : FlR N h .brk .brk
  | cont : FlR N h .cont .cont
  | ret {v val} : RV N h v val → FlR N h (.ret v) (.ret val)

/-- how a raise leaves a suite -/
inductive RzS (mg : Str → Option Value) (A : Around) (Sys : Addr → Prop) (base : Heap) (s : Shared) (X : String → St → Prop) (e : Value) (s' : Shared) : Prop
  | mk (c C x ctx st') : X c st' → mg (Str.ofString c) = some (.ref C) → e = .ref x → (∃ h' tk, s' = { s with heap := h', toks := tk }) → FrOk A Sys s'.heap → HW (FZ A Sys) base s'.heap → (A.handled = none → ctx = .none) → (Fly0 Sys base x C ctx s'.heap ∨ Fly Sys base x C ctx (fun v => v = .none ∨ ∃ L, TopL A L ∧ v = rawInt L) s'.heap) → RzS mg A Sys base s X e s'
theorem RzS.trans {mg : Str → Option Value} {A : Around} {Sys : Addr → Prop} {base : Heap} {s s₁ s' : Shared} {X : String → St → Prop} {e : Value} (r : RzS mg A Sys base s₁ X e s') (k : ∃ h' tk, s₁ = { s with heap := h', toks := tk }) : RzS mg A Sys base s X e s' := by
  obtain ⟨c, C, x, ctx, st', h1, h2, h3, ⟨h', tk, rfl⟩, h5, h6, h7, h8⟩ := r
  obtain ⟨h0, t0, rfl⟩ := k
  exact ⟨c, C, x, ctx, st', h1, h2, h3, ⟨h', tk, rfl⟩, h5, h6, h7, h8⟩
theorem Rz.toS {G : PG} {d : Nat} {c : Sc} {A : Around} {env : Env} {lay : Nat → Option Place} {Sys : Addr → Prop} {base : Heap} {st st' : St} {s s' : Shared} {X : String → St → Prop} {e : Value} (r : Rz G.mg A Sys s (fun x => X x st') e s') (F : Fx G d c A env lay Sys base st s) : RzS G.mg A Sys base s X e s' :=
  let ⟨c, C, x, ctx, h1, h2, h3, h4, h5, h6⟩ := r; ⟨c, C, x, ctx, st', h1, h2, h3, let ⟨h', tk, e, _⟩ := h4; ⟨h', tk, e⟩, F.fr.kz h4.hw, F.sim.keep.trans h4.hw, h5, h6.imp (fun f => f.before fun _ n => n.before F.sim.keep) fun f => f.before fun _ n => n.before F.sim.keep⟩
/-- out of a loop's suite -/
theorem RzS.pass {G : PG} {d : Nat} {c : Sc} {A : Around} {env : Env} {lay : Nat → Option Place} {Sys : Addr → Prop} {base : Heap} {st : St} {s s₀ s' : Shared} {X : String → St → Prop} {e : Value} {E : Value → Shared → Prop} (r : RzS G.mg A Sys base s X e s') (F : Fx G d c A env lay Sys base st s₀) (hX : ∀ e s', RzS G.mg A Sys base s X e s' → E e s') :
    notedBy (model G.prog G.w) A env (fun e s' => cameBackBy (model G.prog G.w) A env E e s') e s' := by
  obtain ⟨c, C, x, ctx, st', h1, h2, rfl, ⟨h', tk, rfl⟩, h5, h6, h7, h8⟩ := r
  obtain ⟨L, hL, hA⟩ := F.own
  have fin : ∀ h'', HW (FZ A Sys) base h'' → FrOk A Sys h'' → Fly Sys base x C ctx (· = rawInt L) h'' → wpAny (model G.prog G.w) A (do
    if (← field (.ref x) 1) == .none then unsupported "frame.own-activation:exception-without-traceback"
    setFlight (.ref x) env.frame) (fun _ s'' => E (.ref x) s'') E { s with heap := h'', toks := tk } := fun h'' k1 k2 k3 =>
      back_fly (s := { s with heap := h'', toks := tk }) k2 hL k1 k3 fun h₃ q1 q2 q3 => hX _ _ ⟨c, C, x, ctx, st', h1, h2, rfl, ⟨h₃, tk, rfl⟩, q2, q1, h7, .inr (q3.mono fun v e => .inr ⟨L, hA, e⟩)⟩
  rcases h8 with f | f
  · exact note_fly0 (s := { s with heap := h', toks := tk }) h5 hA hL h6 f fun h'' k1 k2 k3 => fin h'' k1 k2 k3
  · exact note_fly (s := { s with heap := h', toks := tk }) h5 hA hL h6 (f.mono fun v q => q.imp id fun ⟨M, ⟨e1, l1, a1, a2⟩, a3⟩ => by
      obtain ⟨e2, l2, b1, b2⟩ := hA
      rw [b1] at a1; cases a1
      rw [b2] at a2; cases a2; exact a3) fun h'' k1 k2 k3 => fin h'' k1 k2 k3

section
variable {G : PG} {d : Nat} {c : Sc} {A : Around} {env : Env} {lay : Nat → Option Place} {Sys : Addr → Prop} {base : Heap} {st : St} {s : Shared}

noncomputable abbrev SS (G : PG) (d : Nat) (c : Sc) (m : S) (x : Stmt) : Prop :=
  ∀ {A : Around} {env : Env} {lay : Nat → Option Place} {Sys : Addr → Prop} {base : Heap} {st : St} {s : Shared}, Fx G d c A env lay Sys base st s →
    ∀ (Q : Fl → St → Prop) (X : String → St → Prop) (K : Flow → Shared → Prop) (E : Value → Shared → Prop), WS (G.cx d) m st Q X →
      (∀ f fl st' s', Q f st' → FlR (NN st'.H Sys) s'.heap f fl → Fx0 G d c A env lay Sys base st' s' → Ps (quietS m) lay (FZ A Sys) st s st' s' → K fl s') → (∀ e s', RzS G.mg A Sys base s X e s' → E e s') →
      wpAny (model G.prog G.w) A (exec x env) K E s
noncomputable abbrev SB (G : PG) (d : Nat) (c : Sc) (b : Bl) (xs : List Stmt) : Prop :=
  ∀ {A : Around} {env : Env} {lay : Nat → Option Place} {Sys : Addr → Prop} {base : Heap} {st : St} {s : Shared}, Fx G d c A env lay Sys base st s →
    ∀ (Q : Fl → St → Prop) (X : String → St → Prop) (K : Flow → Shared → Prop) (E : Value → Shared → Prop), WB (G.cx d) b st Q X →
      (∀ f fl st' s', Q f st' → FlR (NN st'.H Sys) s'.heap f fl → Fx0 G d c A env lay Sys base st' s' → Ps (quietB b) lay (FZ A Sys) st s st' s' → K fl s') → (∀ e s', RzS G.mg A Sys base s X e s' → E e s') →
      wpAny (model G.prog G.w) A (execs xs env) K E s

theorem Fx.ps {q : Bool} {st' : St} {s' : Shared} (F : Fx G d c A env lay Sys base st s) (F' : Fx0 G d c A env lay Sys base st' s') (p : Ps q lay (FZ A Sys) st s st' s') : Fx G d c A env lay Sys base st' s' := ⟨F', F.fr.ps F.sim F'.sim p, F.hd.imp id fun q => q.ps F.sim p⟩
theorem sb_nil : SB G d c .nil [] := by
  intro A env lay Sys base st s F Q X K E hW hK hX
  simp only [wb_0, wb_1] at hW
  exact wpAny_execs_nil (hK _ _ st s hW .next F.toFx0 Ps.refl)
theorem and_l {a b : Bool} (h : (a && b) = true) : a = true := ((Bool.and_eq_true _ _).mp h).1
theorem and_r {a b : Bool} (h : (a && b) = true) : b = true := ((Bool.and_eq_true _ _).mp h).2
theorem sb_cons {m : S} {b : Bl} {x : Stmt} {xs : List Stmt} (hm : SS G d c m x) (hb : SB G d c b xs) : SB G d c (.cons m b) (x :: xs) := by
  intro A env lay Sys base st s F Q X K E hW hK hX
  simp only [wb_0, wb_1] at hW
  refine wpAny_execs_cons (hm F _ X _ E hW (fun f fl st' s' q r F' p => ?_) hX)
  cases r with
  | next => exact hb (F.ps F' p) Q X K E q (fun f fl st'' s'' q r F'' p' => hK f fl st'' s'' q r F'' ((p.weak and_l).trans (p'.weak and_r))) fun e s' q => hX e s' (q.trans p.sh)
  | brk => exact hK _ _ st' s' q .brk F' (p.weak and_l)
  | cont => exact hK _ _ st' s' q .cont F' (p.weak and_l)
  | ret r => exact hK _ _ st' s' q (.ret r) F' (p.weak and_l)

theorem swaps_none {x : Expr} {t : Option Expr} {l : Nat} (h : isComp x = false) : swapsWith x t l env = pure false := by
  cases x <;> first | rfl | exact nomatch h

theorem ss_ret {e : E} {y : Expr} {pos : Pos} (he : SE G d c e y) : SS G d c (.ret e) (.Return (some y) pos) := by
  intro A env lay Sys base st s F Q X K E hW hK hX
  simp only [ws_0, ws_1, ws_2, ws_3, ws_4, ws_5, ws_6, ws_7, ws_8, ws_9, ws_10, ws_11, ws_12, ws_13, ws_14, ws_15, ws_16, pk_ret, pk_next] at hW
  exact wpAny_Return_some ((he F).weak _ _ _ E hW (fun v val s' q r k _ => hK (.ret v) (.ret val) st s' q (.ret r) (F.keeps k).toFx0 (Ps.ofKp k)) fun e s' q => hX e s' (q.toS F))

theorem ss_retO {e : E} {y : Expr} {pos : Pos} (he : SA G d c (.thaw e) y) : SS G d c (.retO e) (.Return (some y) pos) := by
  intro A env lay Sys base st s F Q X K E hW hK hX
  simp only [ws_0, ws_1, ws_2, ws_3, ws_4, ws_5, ws_6, ws_7, ws_8, ws_9, ws_10, ws_11, ws_12, ws_13, ws_14, ws_15, ws_16, pk_ret, pk_next] at hW
  have hW' : WA (G.cx d) (.thaw e) st (fun v H' => Q (.ret v) { st with H := H' }) (fun x => X x st) := hW
  exact wpAny_Return_some (he F _ _ _ E hW' (fun v H' val s' q F' r k g => hK (.ret v) (.ret val) _ s' q (.ret r) F'.toFx0 (Ps.ofK k g)) fun e s' q => hX e s' (q.toS F))
theorem ss_ite {t : E} {a b : Bl} {y : Expr} {bs os : List Stmt} {pos : Pos} (ht : ST G d c t y) (ha : SB G d c a bs) (hb : SB G d c b os) : SS G d c (.ite t a b) (.If y bs os pos) := by
  intro A env lay Sys base st s F Q X K E hW hK hX
  simp only [ws_0, ws_1, ws_2, ws_3, ws_4, ws_5, ws_6, ws_7, ws_8, ws_9, ws_10, ws_11, ws_12, ws_13, ws_14, ws_15, ws_16, pk_ret, pk_next] at hW
  refine wpAny_If (ht F (fun r => if r then WB (G.cx d) a st Q X else WB (G.cx d) b st Q X) _ _ E (WE_cg hW fun u => ?_) (fun r s₁ q k => ?_) fun e s' q => hX e s' (q.toS F))
  · cases truthV st.H u with
    | none => rfl
    | some r => cases r <;> rfl
  · cases r
    · simp only [Bool.false_eq_true, if_false] at q ⊢
      exact hb (F.keeps k) Q X K E q (fun f fl st' s' q' r' F' p => hK f fl st' s' q' r' F' ((Ps.ofKp k).trans (p.weak and_r))) fun e s' q => hX e s' (q.trans (let ⟨h', tk, e, _⟩ := k; ⟨h', tk, e⟩))
    · simp only [if_true] at q ⊢
      exact ha (F.keeps k) Q X K E q (fun f fl st' s' q' r' F' p => hK f fl st' s' q' r' F' ((Ps.ofKp k).trans (p.weak and_l))) fun e s' q => hX e s' (q.trans (let ⟨h', tk, e, _⟩ := k; ⟨h', tk, e⟩))

theorem ss_while {t : E} {b : Bl} {y : Expr} {bs : List Stmt} {pos : Pos} (ht : ST G d c t y) (hb : SB G d c b bs) : SS G d c (.while t b) (.While y bs [] pos) := by
  intro A env lay Sys base st s F Q X K E hW hK hX
  simp only [ws_0, ws_1, ws_2, ws_3, ws_4, ws_5, ws_6, ws_7, ws_8, ws_9, ws_10, ws_11, ws_12, ws_13, ws_14, ws_15, ws_16, pk_ret, pk_next] at hW
  obtain ⟨n, hn⟩ := hW
  refine wpAny_While (codeAny_whileLoop (fun n s' => ∃ st', whileN (fun st' K => WE (G.cx d) t st' (fun u => match truthV st'.H u with
      | some r => K r
      | none => False) (fun x => X x st')) (fun st' K => WB (G.cx d) b st' K X) Q n st' ∧ Fx G d c A env lay Sys base st' s' ∧ Ps false lay (FZ A Sys) st s st' s') ?_ n ⟨st, hn, F, Ps.refl⟩)
  rintro n s' ⟨st', hw, F', p⟩
  cases n with
  | zero => exact hw.elim
  | succ n =>
    simp only [wn_zero, wn_succ] at hw
    refine ht F' _ _ _ _ hw (fun r s₁ q k => ?_) fun e s'' q => RzS.pass ((q.toS F').trans p.sh) F hX
    cases r
    · simp only [Bool.false_eq_true, if_false] at q ⊢
      exact wpAny_execs_nil (hK .next .next st' s₁ q .next (F'.keeps k).toFx0 (p.trans (Ps.ofKp k)))
    · simp only [if_true] at q ⊢
      refine hb (F'.keeps k) _ X _ _ q (fun f fl st'' s'' q' r' F'' p' => ?_) fun e s'' q => RzS.pass (q.trans (p.trans (Ps.ofKp k)).sh) F hX
      have pp := (p.trans (Ps.ofKp k)).trans (p'.weak nofun)
      cases r' with
      | next => exact ⟨n, Nat.lt_succ_self n, st'', q', (F'.keeps k).ps F'' p', pp⟩
      | cont => exact ⟨n, Nat.lt_succ_self n, st'', q', (F'.keeps k).ps F'' p', pp⟩
      | brk => exact hK .next .next st'' s'' q' .next F'' pp
      | ret r => exact hK (.ret _) (.ret _) st'' s'' q' (.ret r) F'' pp

/-- plain stores -/
theorem asg_plain {tg y : Expr} {pos : Pos} {K : Flow → Shared → Prop} {E : Value → Shared → Prop} (hs : swapsWithSole [tg] y pos.line env = pure false) (hw : swappedStores [tg] y env = pure none) (hst : noStar tg = true)
    (h : wpAny (model G.prog G.w) A (eval y env) (fun v s₁ => wpAny (model G.prog G.w) A (assign tg env v) (fun _ s₂ => K .next s₂) E s₁) E s) : wpAny (model G.prog G.w) A (exec (.Assign [tg] y pos) env) K E s := by
  refine wpAny_Assign_stores (wpAny_mono h (fun v s₁ h₁ => ?_) fun _ _ x => x) hs hw
  have e : (assignEach [tg] env).map (·.2) = [assign tg env] := by cases tg <;> first | rfl | exact ff hst
  rw [e]
  exact h₁
end

end Mine
end

section
set_option autoImplicit false
namespace Mine
open PySem

/-- leaving what was off limits for a while -/
theorem Sim.leave {hsh : HFn} {T : Heap → Prop} {lay : Nat → Option Place} {Sys Z New : Addr → Prop} {base : Heap} {st : St} {h h' : Heap} (S : Sim hsh T lay (fun a => Sys a ∨ New a) Z base st h) (hz : ∀ b, Z b → Sys b) (hk : ∀ b o, ¬ New b → h.get? b = some o → h'.get? b = some o)
    (hlay : ∀ i p, lay i = some p → Sys p.addr) (hSN : ∀ a, Sys a → ¬ New a) (hH : ∀ b, st.H b ≠ none → ¬ New b) (hbase : ∀ b, New b → base.get? b = none) : Sim hsh T lay Sys Z base st h' := by
  have hN : ∀ b, NN st.H Sys b → NN st.H (fun a => Sys a ∨ New a) b ∨ h.get? b = none := fun b q => .inl (q.elim .inl fun q => .inr (.inl q))
  have hk' : ∀ b o, ¬ NN st.H (fun a => Sys a ∨ New a) b → h.get? b = some o → h'.get? b = some o := fun b o nb e => hk b o (fun q => nb (.inr (.inr q))) e
  have hpl : ∀ i p, lay i = some p → ∀ o, h.get? p.addr = some o → h'.get? p.addr = some o := fun i p hp o e => hk _ o (hSN _ (hlay i p hp)) e
  refine ⟨fun b o e => have nb : ¬ New b := fun q => by rw [hbase b q] at e; cases e
    ⟨fun n => hk b o nb ((S.keep b o e).1 n), let ⟨sl, e'⟩ := (S.keep b o e).2; ⟨sl, hk b _ nb e'⟩⟩, hz, let ⟨b0, t, k0, n⟩ := S.top; ⟨b0, t, k0, fun a q => n a (q.imp .inl id)⟩, fun i v p a b => ?_, fun i p a => ?_, S.inj, fun i p a => ⟨hlay i p a, (S.sys i p a).2⟩, fun a o e => ?_, S.own, fun a q e => ?_, S.ent, fun a q => S.dis a (.inl q)⟩
  · obtain ⟨val, x, y⟩ := S.vals i v p a b
    refine ⟨val, ?_, y.gen hN hk'⟩
    have hp := hpl i p b
    cases p with
    | loc L z =>
      obtain ⟨m, ⟨o, es, ep, ho, r⟩, e⟩ := x
      exact ⟨m, ⟨o, es, ep, hp o ho, r⟩, e⟩
    | cell cc =>
      obtain ⟨o, ho, r⟩ := x
      exact ⟨o, hp o ho, r⟩
  · have hp := hpl i p a
    have x := S.ok i p a
    cases p with
    | loc L z =>
      obtain ⟨m, o, es, ep, ho, r⟩ := x
      exact ⟨m, o, es, ep, hp o ho, r⟩
    | cell cc =>
      obtain ⟨v, o, ho, r⟩ := x
      exact ⟨v, o, hp o ho, r⟩
  · refine (S.objs a o e).gen hN hk' fun o' e' => hk a o' (hH a (by rw [e]; simp)) e'
  · cases q' : h.get? a with
    | none => exact S.live a (.inl q) q'
    | some o => rw [hk a o (hSN a q) q'] at e; cases e

/-- a tracked thing of the frame's own is turned -/
theorem Sim.write {hsh : HFn} {T : Heap → Prop} {lay : Nat → Option Place} {Sys Z : Addr → Prop} {base : Heap} {st : St} {h h' : Heap} {ad : Addr} {o o' : AO} (S : Sim hsh T lay Sys Z base st h) (ho : st.H ad = some o) (hB : st.B ad = none)
    (hk : ∀ b ob, b ≠ ad → h.get? b = some ob → h'.get? b = some ob) (ro : RO hsh (NN (st.H.upd ad o') Sys) h' ad o') : Sim hsh T lay Sys Z base { st with H := st.H.upd ad o' } h' := by
  have hb : base.get? ad = none := S.own ad (by rw [ho]; simp) hB
  have hN : ∀ b, NN (st.H.upd ad o') Sys b → NN st.H Sys b ∨ h.get? b = none := fun b q => by
    rcases q with q | q
    · by_cases e : b = ad
      · subst e; exact .inl (.inl (by rw [ho]; simp))
      · rw [upd_other _ _ e] at q; exact .inl (.inl q)
    · exact .inl (.inr q)
  have hk' : ∀ b ob, ¬ NN st.H Sys b → h.get? b = some ob → h'.get? b = some ob := fun b ob nb e => hk b ob (fun q => nb (.inl (by rw [q, ho]; simp))) e
  have hpl : ∀ i p, lay i = some p → p.addr ≠ ad := fun i p hp e => by have := (S.sys i p hp).2.2; rw [e, ho] at this; cases this
  have hda : ¬ Sys ad := fun q => by rw [S.dis ad q] at ho; cases ho
  refine ⟨S.keep.ext1 hb hk, S.zs, S.top, fun i v p a b => ?_, fun i p a => ?_, S.inj, fun i p a => ?_, fun a ob e => ?_, fun a h1 h2 => ?_, fun a q e => ?_, S.ent, fun a q => (upd_other _ _ fun e : a = ad => hda (e ▸ q)).trans (S.dis a q)⟩
  · obtain ⟨val, x, y⟩ := S.vals i v p a b
    refine ⟨val, ?_, y.gen hN hk'⟩
    have hp := hpl i p b
    cases p with
    | loc L z =>
      obtain ⟨m, ⟨o, es, ep, ho, r⟩, e⟩ := x
      exact ⟨m, ⟨o, es, ep, hk _ o hp ho, r⟩, e⟩
    | cell cc =>
      obtain ⟨o, ho, r⟩ := x
      exact ⟨o, hk _ o hp ho, r⟩
  · have hp := hpl i p a
    have x := S.ok i p a
    cases p with
    | loc L z =>
      obtain ⟨m, o, es, ep, ho, r⟩ := x
      exact ⟨m, o, es, ep, hk _ o hp ho, r⟩
    | cell cc =>
      obtain ⟨v, o, ho, r⟩ := x
      exact ⟨v, o, hk _ o hp ho, r⟩
  · have hs := S.sys i p a
    refine ⟨hs.1, hs.2.1, ?_⟩
    show st.H.upd ad o' p.addr = none
    rw [upd_other _ _ (hpl i p a)]; exact hs.2.2
  · by_cases q : a = ad
    · subst q
      have e : st.H.upd a o' a = some ob := e
      rw [upd_self] at e; cases e; exact ro
    · have e : st.H.upd ad o' a = some ob := e
      rw [upd_other _ _ q] at e
      exact (S.objs a ob e).gen hN hk' fun o1 e1 => hk a o1 q e1
  · by_cases q : a = ad
    · subst q; exact hb
    · have h1 : st.H.upd ad o' a ≠ none := h1
      rw [upd_other _ _ q] at h1; exact S.own a h1 h2
  · by_cases q' : a = ad
    · subst q'
      obtain ⟨ob, e'⟩ := ro.exists
      rw [e'] at e; cases e
    · cases q2 : h.get? a with
      | none => exact S.live a q q2
      | some ob => rw [hk a ob q' q2] at e; cases e
theorem Ps.write {Z : Addr → Prop} {lay : Nat → Option Place} {st : St} {s : Shared} {h' : Heap} {tk : Nat} {ad : Addr} {o o' : AO} (ho : st.H ad = some o) (hk : ∀ b ob, b ≠ ad → s.heap.get? b = some ob → h'.get? b = some ob) (hx : h'.get? ad ≠ none) :
    Ps false lay Z st s { st with H := st.H.upd ad o' } { s with heap := h', toks := tk } where
  sh := ⟨h', tk, rfl⟩
  old := fun b ob hb _ e => have e' := hk b ob (fun q => by rw [q, ho] at hb; cases hb) e; ⟨fun _ => e', ob.slots, e'⟩
  new := fun b h e => by
    by_cases q : b = ad
    · rw [q, ho] at e; cases e
    · have h : st.H.upd ad o' b ≠ none := h
      rw [upd_other _ _ q] at h; exact absurd e h
  stay := fun b h => by
    show st.H.upd ad o' b ≠ none
    by_cases q : b = ad
    · rw [q, upd_self]; simp
    · rw [upd_other _ _ q]; exact h
  B := rfl
  len := rfl
  ext := fun b h e => by
    by_cases q : b = ad
    · subst q; exact hx e
    · cases q2 : s.heap.get? b with
      | none => exact h q2
      | some ob =>
        have := hk b ob q q2
        rw [show ({ s with heap := h', toks := tk } : Shared).heap = h' from rfl, this] at e; cases e
  qt := nofun
theorem RVs.upd {H : AH} {Sys : Addr → Prop} {h h' : Heap} {ad : Addr} {o o' : AO} {vs : List V} {xs : List Value} (r : RVs (NN H Sys) h vs xs) (ho : H ad = some o) (hk : ∀ b ob, b ≠ ad → h.get? b = some ob → h'.get? b = some ob) : RVs (NN (H.upd ad o') Sys) h' vs xs :=
  r.gen (fun b q => by
    rcases q with q | q
    · by_cases e : b = ad
      · subst e; exact .inl (.inl (by rw [ho]; simp))
      · rw [upd_other _ _ e] at q; exact .inl (.inl q)
    · exact .inl (.inr q)) fun b ob nb e => hk b ob (fun q => nb (.inl (by rw [q, ho]; simp))) e
theorem RV.upd {H : AH} {Sys : Addr → Prop} {h h' : Heap} {ad : Addr} {o o' : AO} {v : V} {x : Value} (r : RV (NN H Sys) h v x) (ho : H ad = some o) (hk : ∀ b ob, b ≠ ad → h.get? b = some ob → h'.get? b = some ob) : RV (NN (H.upd ad o') Sys) h' v x :=
  r.gen (fun b q => by
    rcases q with q | q
    · by_cases e : b = ad
      · subst e; exact .inl (.inl (by rw [ho]; simp))
      · rw [upd_other _ _ e] at q; exact .inl (.inl q)
    · exact .inl (.inr q)) fun b ob nb e => hk b ob (fun q => nb (.inl (by rw [q, ho]; simp))) e

end Mine
end

section
set_option autoImplicit false
namespace Mine
open PySem

section
variable {G : PG} {d : Nat} {c : Sc} {A : Around} {env : Env} {lay : Nat → Option Place} {Sys : Addr → Prop} {base : Heap} {st : St} {s : Shared}

theorem chkN_star {i : Nat} {tg : Expr} (h : chkN c i tg = true) : noStar tg = true := by obtain ⟨x, pos, rfl, _⟩ := chkN_eq h; rfl
theorem chkN_swap {i : Nat} {tg y : Expr} (h : chkN c i tg = true) : swappedStores [tg] y env = pure none := by obtain ⟨x, pos, rfl, _⟩ := chkN_eq h; rfl

theorem ss_own {i : Nat} {a : Mine.A} {tg y : Expr} {pos : Pos} {Q : Fl → St → Prop} {X : String → St → Prop} {K : Flow → Shared → Prop} {E : Value → Shared → Prop} (F : Fx G d c A env lay Sys base st s) (ha : SA G d c a y) (ht : chkN c i tg = true) (hs : swapsWithSole [tg] y pos.line env = pure false)
    (hW : WS (G.cx d) (.own i a) st Q X) (hK : ∀ f fl st' s', Q f st' → FlR (NN st'.H Sys) s'.heap f fl → Fx0 G d c A env lay Sys base st' s' → Ps true lay (FZ A Sys) st s st' s' → K fl s') (hX : ∀ e s', RzS G.mg A Sys base s X e s' → E e s') : wpAny (model G.prog G.w) A (exec (.Assign [tg] y pos) env) K E s := by
  simp only [ws_0, ws_1, ws_2, ws_3, ws_4, ws_5, ws_6, ws_7, ws_8, ws_9, ws_10, ws_11, ws_12, ws_13, ws_14, ws_15, ws_16, pk_ret, pk_next] at hW
  refine asg_plain hs (chkN_swap ht) (chkN_star ht) (ha F _ _ _ E hW (fun v H' val s₁ q F₁ r k g => ?_) fun e s' q => hX e s' (q.toS F))
  replace q := putV_inv (P := fun ρ' => Q .next { st with ρ := ρ', H := H' }) q
  refine st_one F₁.eo F₁.sim ht q.1 r fun h' tk S' tc => ?_
  exact hK .next .next _ _ q.2 .next ⟨F.rm, F.eo, F.us, S', F.own, F.cold⟩ ((Ps.ofK k g).trans (Ps.ofTc (st := { st with H := H' }) S' tc (by simp)))

end

end Mine
end

section
set_option autoImplicit false
namespace Mine
open PySem

section
variable {G : PG} {d : Nat} {c : Sc} {A : Around} {env : Env} {lay : Nat → Option Place} {Sys : Addr → Prop} {base : Heap} {st : St} {s : Shared}

theorem sole_none {tg y : Expr} {l : Nat} (h : isComp y = false) : swapsWithSole [tg] y l env = pure false := swaps_none h
theorem snd_own (hc : CallSnd G d) {i : Nat} {a : Mine.A} {tg y : Expr} {pos : Pos} (hf : c.fns = G.tbl.map (·.1) ∧ c.xs = G.xs ∧ c.hots = G.hots) (ht : chkN c i tg = true) (ha : chkA c a y = true) (hn : okOwn a = true) : SS G d c (.own i a) (.Assign [tg] y pos) := by
  intro A env lay Sys base st s F Q X K E hW hK hX
  by_cases hcp : isComp y = true
  · -- a comprehension
    have key : ∀ e, chkE c e y = true → (a = .pure e ∨ (a = .thaw e)) → wpAny (model G.prog G.w) A (exec (.Assign [tg] y pos) env) K E s := by
      intro e he hae
      cases e with
      | comp elt t it => rcases hae with rfl | rfl <;> exact ff hn
      | compIf elt t it cd => rcases hae with rfl | rfl <;> exact ff hn
      | _ => exact ff (comp_only he hcp)
    cases a with
    | pure e => exact key e ha (.inl rfl)
    | thaw e => exact key e ((Bool.and_eq_true _ _).mp ha).2 (.inr rfl)
    | list as => obtain ⟨xs, p, rfl, _⟩ := onList_inv ha; exact ff hcp
    | callO f es => obtain ⟨y, p, xs, q, rfl, _⟩ := onCallN_inv ha; exact ff hcp
    | dict => exact ff ha
    | new f es => exact ff ha
  · exact ss_own F (sndA hc a c _ hf ha) ht (sole_none (by simpa using hcp)) hW hK hX
end

end Mine
end

section
set_option autoImplicit false
namespace Mine
open PySem

section
variable {G : PG} {d : Nat} {c : Sc} {A : Around} {env : Env} {lay : Nat → Option Place} {Sys : Addr → Prop} {base : Heap} {st : St} {s : Shared}

theorem ss_append {e : E} {a : Mine.A} {o z : Expr} {ap cp pos : Pos} (he : SE G d c e o) (ha : SA G d c a z) (hb : baseX o = true) (hz : noStar z = true) (hl : (ap.endLine == cp.line) = true) :
    SS G d c (.append e a) (.Expr (.Call (.Attribute o (Str.ofString "append") ap) [z] [] cp) pos) := by
  intro A env lay Sys base st s F Q X K E hW hK hX
  simp only [ws_0, ws_1, ws_2, ws_3, ws_4, ws_5, ws_6, ws_7, ws_8, ws_9, ws_10, ws_11, ws_12, ws_13, ws_14, ws_15, ws_16, pk_ret, pk_next] at hW
  refine wpAny_Expr_any ?_ (by simp [interactive, F.eo.kind]) rfl
  have hbase : attributeBase o (Str.ofString "append") env (eval o env) = eval o env := by cases o <;> first | rfl | exact ff hb
  refine wpAny_Call_method (T := "list") (id := "list.append") hbase (by rw [starEach_cons hz]; rfl) hl PySem.F.plainAttrs_list PySem.F.slot_list_append PySem.F.type_list_append ?_
  refine (he F).weak _ _ _ E hW (fun v va s₁ h₁ r₁ k₁ fr => ?_) fun e s' q => hX e s' (q.toS F)
  clear fr
  have F₁ := F.keeps k₁
  split at h₁
  · rename_i ad
    cases r₁
    split at h₁
    · rename_i vs0 hH
      cases F₁.sim.objs _ _ hH with
      | list b1 b2 b3 =>
        refine ⟨b1.isList.typeIs, by rintro a ⟨⟩; exact ⟨_, b1, rfl⟩, ?_⟩
        rw [starEach_cons hz]
        refine P.append_list (ha F₁ _ _ _ E h₁ (fun w H' val s₂ q F₂ r k g => ?_) fun e s' q => hX e s' ((Rz.trans k₁ q).toS F))
        split at q
        · rename_i vs hH'
          obtain ⟨hB, hlt, hQ⟩ := q
          cases F₂.sim.objs _ _ hH' with
          | list c1 c2 c3 =>
            rename_i xs n
            have hsz := c3.size
            refine ⟨xs, n, c2, c1, ?_⟩
            have hk : ∀ b ob, b ≠ ad → s₂.heap.get? b = some ob → (s₂.heap.update ad (Obj.mapSeq fun xs => xs.push val)).get? b = some ob := fun b ob nb e => (Heap.get?_update_other _ _ (Ne.symm nb)).trans e
            have hl' := c1.update (fun xs => xs.push val)
            have hro : RO G.hf (NN (AH.upd H' ad (.list (vs ++ [w]))) Sys) (s₂.heap.update ad (Obj.mapSeq fun xs => xs.push val)) ad (.list (vs ++ [w])) := by
              refine .list hl' (by rw [Array.size_push]; omega) ?_
              rw [Array.toList_push]
              exact (c3.upd hH' hk).append (.cons (r.upd hH' hk) .nil)
            have S' := F₂.sim.write hH' hB hk hro
            exact hK .next .next _ _ hQ .next ⟨F.rm, F.eo, F.us, S', F.own, F.cold⟩ (((Ps.ofKp k₁).trans (Ps.ofK k g)).trans (Ps.write (st := { st with H := H' }) (s := s₂) hH' hk (by rw [hl']; simp)))
        · exact q.elim
    · exact h₁.elim
  · exact h₁.elim

theorem set_row {l : Addr} {items : Array Value} {n : Nat} {k : Int} {t : Tok} {v : Value} {Q : Unit → Shared → Prop} (hl : IsL s.heap l items n) (h0 : 0 ≤ k) (hn : k < items.size) (hz : items.size ≤ sizeLine)
    (h : Q () { s with heap := s.heap.update l (Obj.mapSeq (·.setIfInBounds k.toNat v)) }) {E : Value → Shared → Prop} : wpAny (model G.prog G.w) A (setItem (.ref l) (.int k t) v) Q E s := by
  have hz' : items.size ≤ 16777216 := hz
  have hil := hl.isList
  unfold setItem
  refine wpAny_holding ?_
  refine wpAny_bind (wpAny_sequenceKey hil.typeIs (by decide) ?_)
  refine wpAny_bind (wpAny_callSpecial?_slot (name := Str.ofString "__setitem__") hil.typeIs slot_list_setitem (wpAny_call_entry slot_list_setitem hil.typeIs entry_list_setitem ?_ (args_list_setitem _ _ _)))
  show wpAny _ _ (Builtin.List.listSubscript? (.int k t) >>= _) _ _ s
  refine wpAny_bind (wpAny_listSubscript_int (fitsIndex_of h0 (by omega)) ?_)
  obtain ⟨j, rfl⟩ := Int.eq_ofNat_of_zero_le h0
  have hj : j < items.size := by omega
  show wpAny _ _ ((seqItemAt l j >>= fun r => pure (r.map (j, ·))) >>= _) _ _ s
  refine wpAny_bind (wpAny_bind (wpAny_seqItemAt hl rfl (wpAny_pure ?_)))
  rw [Array.getElem?_eq_getElem hj]
  show wpAny _ _ (setSeqItemAt l j v >>= _) _ _ s
  refine wpAny_bind (wpAny_setSeqItemAt hl rfl ?_)
  exact wpAny_pure ⟨.none, rfl, wpAny_pure h⟩

theorem setV_inv {H B : AH} {u kk : V} {P : Nat → List V → Nat → Prop} (h : setV H B u kk P) : ∃ ad i vs, u = .ref ad ∧ kk = .int i ∧ B ad = none ∧ 0 ≤ i ∧ H ad = some (.list vs) ∧ i < vs.length ∧ P ad vs i.toNat := by
  cases u with
  | ref ad =>
    obtain ⟨i, rfl, h1, h2, vs, h3, h4, h5⟩ := intP_inv h
    exact ⟨ad, i, vs, rfl, rfl, h1, h2, h3, h4, h5⟩
  | _ => exact False.elim h

theorem RVs.set {N : Addr → Prop} {h : Heap} {w : V} {x : Value} (r : RV N h w x) : ∀ {vs : List V} {xs : List Value} (n : Nat), RVs N h vs xs → RVs N h (vs.set n w) (xs.set n x)
  | _, _, _, .nil => .nil
  | _, _, 0, .cons _ b => .cons r b
  | _, _, n + 1, .cons a b => .cons a (b.set r n)

theorem ss_setitem {e k v : E} {o i y : Expr} {p pos : Pos} (he : SE G d c e o) (hk : SE G d c k i) (hv : SE G d c v y) (hcp : isComp y = false) : SS G d c (.setitem e k v) (.Assign [.Subscript o i p] y pos) := by
  intro A env lay Sys base st s F Q X K E hW hK hX
  refine asg_plain (sole_none hcp) rfl rfl ?_
  refine (hv F).weak _ _ _ E hW (fun w val s₁ q₁ r₁ k₁ _ => ?_) fun e s' q => hX e s' (q.toS F)
  have F₁ := F.keeps k₁
  rw [assign_Subscript]
  refine wpAny_bind (wpAny_holding ((he F₁).weak _ _ _ E q₁ (fun u ov s₂ q₂ r₂ k₂ _ => ?_) fun e s' q => hX e s' ((Rz.trans k₁ q).toS F)))
  have F₂ := F₁.keeps k₂
  refine wpAny_bind (wpAny_holding ((hk F₂).weak _ _ _ E q₂ (fun kk iv s₃ q₃ r₃ k₃ _ => ?_) fun e s' q => hX e s' ((Rz.trans (k₁.trans k₂) q).toS F)))
  have F₃ := F₂.keeps k₃
  obtain ⟨ad, n, vs, rfl, rfl, hB, h0, hH, hlt, hQ⟩ := setV_inv q₃
  refine wpAny_bind (wpAny_standAt ?_)
  cases r₂
  cases r₃
  cases F₃.sim.objs _ _ hH with
  | list c1 c2 c3 =>
    rename_i t xs nn
    have hsz := c3.size
    refine wpAny_bind (wpAny_holding (set_row c1 h0 (by omega) c2 (wpAny_release ?_)))
    have hkk : ∀ b ob, b ≠ ad → s₃.heap.get? b = some ob → (s₃.heap.update ad (Obj.mapSeq (·.setIfInBounds n.toNat val))).get? b = some ob := fun b ob nb e => (Heap.get?_update_other _ _ (Ne.symm nb)).trans e
    have hl' := c1.update (·.setIfInBounds n.toNat val)
    have hro : RO G.hf (NN (AH.upd st.H ad (.list (vs.set n.toNat w))) Sys) (s₃.heap.update ad (Obj.mapSeq (·.setIfInBounds n.toNat val))) ad (.list (vs.set n.toNat w)) := by
      refine .list hl' (by rw [Array.size_setIfInBounds]; exact c2) ?_
      rw [Array.toList_setIfInBounds]
      exact ((c3.upd hH hkk).set ((r₁.kz (k₂.trans k₃).hw).upd hH hkk) _)
    have S' := F₃.sim.write hH hB hkk hro
    exact hK .next .next _ _ hQ .next ⟨F.rm, F.eo, F.us, S', F.own, F.cold⟩ ((Ps.ofKp (k₁.trans (k₂.trans k₃))).trans (Ps.write hH hkk (by rw [hl']; simp)))

end

end Mine
end

section
set_option autoImplicit false
namespace Mine
open PySem
end Mine
end

section
set_option autoImplicit false
namespace Mine
open PySem PyProof.Rows
end Mine
end

section
set_option autoImplicit false
namespace Mine
open PySem

/-- things off limits are turned -/
theorem Sim.turn {hsh : HFn} {T : Heap → Prop} {lay : Nat → Option Place} {Sys Z Mod : Addr → Prop} {base : Heap} {st : St} {h h' : Heap} (S : Sim hsh T lay Sys Z base st h) (hM : ∀ b, Mod b → Sys b) (hk : ∀ b o, ¬ Mod b → h.get? b = some o → h'.get? b = some o)
    (hlay : ∀ i p, lay i = some p → ¬ Mod p.addr) (hH : ∀ b, st.H b ≠ none → ¬ Mod b) (hbase : ∀ b, Mod b → base.get? b = none) (hlive : ∀ b, Mod b → h'.get? b ≠ none) : Sim hsh T lay Sys Z base st h' := by
  have hk' : ∀ b o, ¬ NN st.H Sys b → h.get? b = some o → h'.get? b = some o := fun b o nb e => hk b o (fun q => nb (.inr (hM b q))) e
  have hpl : ∀ i p, lay i = some p → ∀ o, h.get? p.addr = some o → h'.get? p.addr = some o := fun i p hp o e => hk _ o (hlay i p hp) e
  refine ⟨fun b o e => have nb : ¬ Mod b := fun q => by rw [hbase b q] at e; cases e
    ⟨fun n => hk b o nb ((S.keep b o e).1 n), let ⟨sl, e'⟩ := (S.keep b o e).2; ⟨sl, hk b _ nb e'⟩⟩, S.zs, S.top, fun i v p a b => ?_, fun i p a => ?_, S.inj, S.sys, fun a o e => ?_, S.own, fun a q e => ?_, S.ent, S.dis⟩
  · obtain ⟨val, x, y⟩ := S.vals i v p a b
    refine ⟨val, ?_, y.gen (fun _ q => .inl q) hk'⟩
    have hp := hpl i p b
    cases p with
    | loc L z =>
      obtain ⟨m, ⟨o, es, ep, ho, r⟩, e⟩ := x
      exact ⟨m, ⟨o, es, ep, hp o ho, r⟩, e⟩
    | cell cc =>
      obtain ⟨o, ho, r⟩ := x
      exact ⟨o, hp o ho, r⟩
  · have hp := hpl i p a
    have x := S.ok i p a
    cases p with
    | loc L z =>
      obtain ⟨m, o, es, ep, ho, r⟩ := x
      exact ⟨m, o, es, ep, hp o ho, r⟩
    | cell cc =>
      obtain ⟨v, o, ho, r⟩ := x
      exact ⟨v, o, hp o ho, r⟩
  · exact (S.objs a o e).gen (fun _ q => .inl q) hk' fun o' e' => hk a o' (hH a (by rw [e]; simp)) e'
  · by_cases hm : Mod a
    · exact hlive a hm e
    · cases q' : h.get? a with
      | none => exact S.live a q q'
      | some o => rw [hk a o hm q'] at e; cases e

theorem RzS.less {mg : Str → Option Value} {A : Around} {Sys Sys' : Addr → Prop} {base : Heap} {s s' : Shared} {X : String → St → Prop} {e : Value} (r : RzS mg A Sys' base s X e s') (hs : ∀ a, Sys a → Sys' a) (ez : FZ A Sys' = FZ A Sys) (hf : ∀ h, FrOk A Sys' h → FrOk A Sys h) : RzS mg A Sys base s X e s' := by
  obtain ⟨c, C, x, ctx, st', h1, h2, h3, h4, h5, h6, h7, h8⟩ := r
  rw [ez] at h6
  exact ⟨c, C, x, ctx, st', h1, h2, h3, h4, hf _ h5, h6, h7, h8.imp (fun f => f.before fun a n => ⟨n.1, fun q => n.2 (hs a q)⟩) fun f => f.before fun a n => ⟨n.1, fun q => n.2 (hs a q)⟩⟩
section
variable {G : PG} {d : Nat} {c : Sc} {A : Around} {env : Env} {lay : Nat → Option Place} {Sys : Addr → Prop} {base : Heap} {st : St} {s : Shared}

theorem ss_for {t : Tg} {it : It} {b : Bl} {tg y : Expr} {bs : List Stmt} {pos : Pos} (hi : SI G d c it y) (ht : chkTg c t tg = true) (hset : isSetX y = false) (hez : isEZ it = true → isTupX tg = true) (hdead : c.dead = false) (hb : SB G d c b bs) : SS G d c (.for t it b) (.For tg y bs [] pos) := by
  intro A env lay Sys base st s F Q X K E hW hK hX
  simp only [ws_0, ws_1, ws_2, ws_3, ws_4, ws_5, ws_6, ws_7, ws_8, ws_9, ws_10, ws_11, ws_12, ws_13, ws_14, ws_15, ws_16, pk_ret, pk_next] at hW
  refine wpAny_For (hi F _ _ _ E hW (fun vs ds I s₂ hq k io => ?_) fun e s' q => hX e s' (q.toS F)) (folded_plain hset env)
  obtain ⟨hds, hfor⟩ := hq
  generalize isEZ it = nw at io hez
  obtain ⟨fp, wr, P, Mi, Si, W, hsi, hwr, hfp, hdep, hitem⟩ := io.ex
  obtain ⟨h2, t2, rfl, k2⟩ := id k
  -- the loop's invariant
  let Sys' : Addr → Prop := fun a => Sys a ∨ a ∈ wr
  have hSw : ∀ a, Sys a → a ∉ wr := fun a q e => F.sim.live a q (hwr a e)
  have hbw : ∀ a, a ∈ wr → base.get? a = none := fun a q => F.sim.keep.ext (hwr a q)
  have ez : FZ A Sys' = FZ A Sys := funext fun b => propext ⟨fun q => ⟨q.1, F.za q.1⟩, fun q => ⟨q.1, .inl q.2⟩⟩
  have hfz : ∀ b ∈ fp, ¬ ZA A b := fun b hb z => by
    by_cases hbw : b ∈ wr
    · exact F.nz (hwr b hbw) z
    · rcases hdep b hb hbw with q | q
      · exact q (.inr (F.za z))
      · exact q.2 (F.sim.dis b (F.za z))
  let Wk : Heap → Addr → Obj → Prop := fun h b o => (¬ FZ A Sys b → h.get? b = some o) ∧ ∃ sl, h.get? b = some { o with slots := sl }
  have frl : ∀ h, FrOk A Sys' h → FrOk A Sys h := fun h ⟨lv, l, e, f⟩ => ⟨fun a q => lv a (.inl q), l, e, fun v hv => let ⟨g1, L, o, g2, g3, g4⟩ := f v hv; ⟨g1, L, o, g2, F.za ⟨l, v, e, hv, g2⟩, g4⟩⟩
  have hpw : ∀ i p, lay i = some p → p.addr ∉ wr := fun i p hp => hSw _ (F.sim.sys i p hp).1
  have hyw : ∀ y, A.handled = some (.ref y) → y ∉ wr := fun y e hb => by
    rcases F.hdo hdead with q | ⟨y', o, vs, h1, h2, h3, _⟩
    · rw [q] at e; cases e
    · rw [h1] at e; cases e; rw [hwr _ hb] at h3; cases h3
  have hqh : ∀ h, (∀ b o, st.H b = none → (∀ i p, lay i = some p → b ≠ p.addr) → b ∉ wr → h2.get? b = some o → Wk h b o) → Hq A h := fun h hold => (F.hdo hdead).imp id fun ⟨y, o, vs, h1, g2, h3, h4⟩ =>
    ⟨y, o, vs, h1, (hold y o (by
      cases q : st.H y with
      | none => rfl
      | some ob => exact ((F.sim.objs y ob q).nofields h3 h4.1).elim) (fun i p hp e => g2 (e ▸ (F.sim.sys i p hp).1)) (hyw y h1) ((k2 y o h3).1 fun q => g2 q.2)).1 fun q => g2 q.2, h4⟩
  let Inv : Nat → Shared → Prop := fun n s' => ∃ i st' h tk, n = vs.length - i ∧ i ≤ vs.length ∧ s' = { s with heap := h, toks := tk } ∧ forL t (fun st' K => WB (G.cx d) b st' K X) Q (vs.drop i) st' ∧ Si i h ∧ Sim G.hf (TT G) lay Sys' (FZ A Sys') base st' h ∧ FrOk A Sys' h ∧
    (∀ b o, st.H b = none → (∀ i p, lay i = some p → b ≠ p.addr) → b ∉ wr → h2.get? b = some o → Wk h b o) ∧ (∀ b, st'.H b ≠ none → st.H b = none → h2.get? b = none) ∧ (∀ b, st.H b ≠ none → st'.H b ≠ none) ∧ st'.B = st.B ∧ st'.ρ.length = st.ρ.length ∧ (∀ b, h2.get? b ≠ none → h.get? b ≠ none)
  -- what is tracked is not the walk's own
  have trk : ∀ st' : St, (∀ b, st'.H b ≠ none → st.H b = none → h2.get? b = none) → ∀ b, st'.H b ≠ none → b ∉ wr := by
    intro st' hn b hb hbw'
    cases e : st.H b with
    | none => exact W.ex 0 h2 hsi b hbw' (hn b hb e)
    | some o =>
      obtain ⟨ob, e'⟩ := (F.sim.objs b o e).exists
      rw [hwr b hbw'] at e'; cases e'
  have fin : ∀ (f : Fl) (fl : Flow) (st' : St) (h : Heap) (tk : Nat), Q f st' → FlR (NN st'.H Sys') h f fl → Sim G.hf (TT G) lay Sys' (FZ A Sys') base st' h → (∀ b o, st.H b = none → (∀ i p, lay i = some p → b ≠ p.addr) → b ∉ wr → h2.get? b = some o → Wk h b o) → (∀ b, st'.H b ≠ none → st.H b = none → h2.get? b = none) →
      (∀ b, st.H b ≠ none → st'.H b ≠ none) → st'.B = st.B → st'.ρ.length = st.ρ.length → (∀ b, h2.get? b ≠ none → h.get? b ≠ none) → K fl { s with heap := h, toks := tk } := by
    intro f fl st' h tk hq hfl hS hold hnew hstay hB hlen hext
    have S' : Sim G.hf (TT G) lay Sys (FZ A Sys) base st' h := ez ▸ Sim.leave (New := fun a => a ∈ wr) hS (fun b q => F.za q.1) (fun _ _ _ e => e) (fun i p hp => (F.sim.sys i p hp).1) hSw (trk st' hnew) hbw
    refine hK f fl st' _ hq ?_ ⟨F.rm, F.eo, F.us, S', F.own, F.cold⟩ ⟨⟨h, tk, rfl⟩, fun b o h1 h2' e => have nb : b ∉ wr := fun q => by rw [hwr b q] at e; cases e
      ⟨fun n => (hold b o h1 h2' nb ((k2 b o e).1 n)).1 n, let ⟨_, e1⟩ := (k2 b o e).2; let ⟨sl, e2⟩ := (hold b _ h1 h2' nb e1).2; ⟨sl, e2⟩⟩, fun b h1 h2' => fresh_keeps k (hnew b h1 h2'), hstay, hB, hlen, fun b h1 => hext b fun e => h1 (fresh_keeps k e), nofun⟩
    cases hfl with
    | next => exact .next
    | brk => exact .brk
    | cont => exact .cont
    | ret r => exact .ret (r.less fun b q => q.elim .inl fun q => .inr (.inl q))
  have S0 : Sim G.hf (TT G) lay Sys' (FZ A Sys') base st h2 := by rw [ez]; exact F.sim.enter (New := fun a => a ∈ wr) k2 hwr (W.ex 0 h2 hsi)
  have f0 : FrOk A Sys' h2 := let ⟨_, l, e, f⟩ := F.fr.kz k2; ⟨S0.live, l, e, fun v hv => let ⟨g1, L, o, g2, g3, g4⟩ := f v hv; ⟨g1, L, o, g2, .inl g3, g4⟩⟩
  refine codeAny_forLoop_any Inv ?_ vs.length ⟨0, st, h2, t2, rfl, Nat.zero_le _, rfl, by simpa using hfor, hsi, S0, f0, fun _ o _ _ _ e => ⟨fun _ => e, o.slots, e⟩, fun _ h e => absurd e h, fun _ h => h, rfl, rfl, fun _ h => h⟩
  rintro n s' ⟨i, st', h, tk, hn, hil, rfl, hfl, hs_i, hS, hfo, hold, hnew, hstay, hB, hlen, hext⟩
  rcases Nat.lt_or_ge i vs.length with hlt | hge
  · have hx : vs[i]? = some vs[i] := List.getElem?_eq_getElem hlt
    rw [List.drop_eq_getElem_cons hlt] at hfl
    simp only [fl_nil, fl_cons] at hfl
    split at hfl
    · rename_i ρ' hbd
      refine W.item i _ _ _ hlt hs_i fun val h1 tk1 hMi hfr hk1 => ?_
      refine W.own i { s with heap := h1, toks := tk1 } val tg _ _ hMi hez fun h3 hs3 hP3 hk3 => ?_
      have hk03 : ∀ b o, b ∉ wr → h.get? b = some o → h3.get? b = some o := fun b o nb e => hk3 b o nb (hk1 b o nb e)
      have S3 : Sim G.hf (TT G) lay Sys' (FZ A Sys') base st' h3 := hS.turn (Mod := fun a => a ∈ wr) (fun b q => .inr q) hk03 hpw (trk st' hnew) hbw (W.ex _ _ hs3)
      have hgenN : ∀ b, NN st'.H Sys' b → NN st.H (fun a => Sys a ∨ a ∈ wr) b ∨ h2.get? b = none := by
        rintro b (q | q)
        · cases e : st.H b with
          | none => exact .inr (hnew b q e)
          | some o => exact .inl (.inl (by rw [e]; simp))
        · exact .inl (.inr q)
      have hgenK : ∀ b o, ¬ NN st.H (fun a => Sys a ∨ a ∈ wr) b → h2.get? b = some o → h3.get? b = some o := fun b o nb e => hk03 b o (fun q => nb (.inr (.inr q))) ((hold b o (by
        cases q : st.H b with
        | none => rfl
        | some ob => exact absurd (.inl (by rw [q]; simp)) nb) (fun i p hp hbp => nb (.inr (.inl (hbp ▸ (F.sim.sys i p hp).1)))) (fun q => nb (.inr (.inr q))) e).1 fun q => nb (.inr (.inl q.2)))
      have hval : RV (NN st'.H Sys') h3 vs[i] val := by
        have := hitem i vs[i] val h3 hx hP3
        cases nw with
        | false => exact RV.gen hgenN hgenK this
        | true =>
          obtain ⟨t', xs', n', ws, e1, rfl, e3, e4, e5⟩ := this
          rw [e1]
          have hft : h.get? t' = none := hfr rfl t' rfl
          refine .tup (fun q => ?_) e3 e4 (RVs.gen hgenN hgenK e5)
          rcases q with q | q
          · exact q (hS.fresh hft)
          · exact hS.live _ q hft
      refine st_tg (s := { s with heap := h3, toks := tk1 }) F.cold F.eo S3 ht hbd hval fun h4 tk4 S4 tc => ?_
      have F4 : Fx G d c A env lay Sys' base { st' with ρ := ρ' } { s with heap := h4, toks := tk4 } := by
        refine ⟨⟨F.rm, F.eo, F.us, S4, F.own, F.cold⟩, ?_, ?_⟩
        rotate_left
        · refine .inr ?_
          rcases hqh h hold with q | ⟨y, o, vs, q1, q2, q3⟩
          · exact .inl q
          · refine .inr ⟨y, o, vs, q1, ?_, ?_, q3⟩
            · rintro (q | q)
              · rcases F.hdo hdead with e | ⟨y', _, _, e, ne, _⟩
                · rw [q1] at e; cases e
                · rw [q1] at e; cases e; exact ne q
              · exact hyw y q1 q
            · refine tc y o (fun i _ p hp e => ?_) (hk03 y o (hyw y q1) q2)
              rcases F.hdo hdead with e' | ⟨y', _, _, e', ne, _⟩
              · rw [q1] at e'; cases e'
              · rw [q1] at e'; cases e'; exact ne (e ▸ (F.sim.sys i p hp).1)
        have f3 : FrOk A Sys' h3 := by
          obtain ⟨lv, l, e, f⟩ := hfo
          refine ⟨S3.live, l, e, fun v hv => ?_⟩
          obtain ⟨g1, L, o, g2, g3, g4, g5⟩ := f v hv
          exact ⟨g1, L, o, g2, g3, hk03 L o (hSw L (F.za ⟨l, v, e, hv, g2⟩)) g4, g5⟩
        exact FrOk.ps (q := true) (Z' := FZ A Sys') (s := { s with heap := h3, toks := tk1 }) (s' := { s with heap := h4, toks := tk4 }) f3 S3 S4 (Ps.ofTc (s := { s with heap := h3, toks := tk1 }) (tk := tk4) S4 tc (bindT_len hbd))
      refine hb F4 _ X _ _ hfl (fun f fl st5 s5 q5 r5 F5 p5 => ?_) fun e s' q => RzS.pass ((q.less (fun a q => .inl q) ez frl).trans ⟨h4, tk4, rfl⟩) F hX
      obtain ⟨h5, t5, rfl⟩ := p5.sh
      have f5 := FrOk.ps F4.fr F4.sim F5.sim p5
      have P4 : Ps (quietB b) lay (FZ A Sys') st' { s with heap := h3, toks := tk1 } { st' with ρ := ρ' } { s with heap := h4, toks := tk4 } := Ps.ofTc (s := { s with heap := h3, toks := tk1 }) (tk := tk4) S4 tc (bindT_len hbd)
      have P5 := P4.trans p5
      have ext03 : ∀ b, h.get? b ≠ none → h3.get? b ≠ none := fun b hne e => by
        by_cases q : b ∈ wr
        · exact W.ex _ _ hs3 b q e
        · cases e' : h.get? b with
          | none => exact hne e'
          | some o => rw [hk03 b o q e'] at e; cases e
      -- the facts of the turn
      have hold5 : ∀ b o, st.H b = none → (∀ i p, lay i = some p → b ≠ p.addr) → b ∉ wr → h2.get? b = some o → Wk h5 b o := fun b o e1 e2 e3 e4 => by
        have e0 : st'.H b = none := by
          cases q : st'.H b with
          | none => rfl
          | some ob => rw [hnew b (by rw [q]; simp) e1] at e4; cases e4
        refine ⟨fun n => (P5.old b o e0 e2 (hk03 b o e3 ((hold b o e1 e2 e3 e4).1 n))).1 fun q => n (ez ▸ q), ?_⟩
        obtain ⟨_, g1⟩ := (hold b o e1 e2 e3 e4).2
        obtain ⟨sl, g2⟩ := (P5.old b _ e0 e2 (hk03 b _ e3 g1)).2
        exact ⟨sl, g2⟩
      have hnew5 : ∀ b, st5.H b ≠ none → st.H b = none → h2.get? b = none := fun b e1 e2 => by
        cases q : st'.H b with
        | some o => exact hnew b (by rw [q]; simp) e2
        | none =>
          cases e : h2.get? b with
          | none => rfl
          | some o => exact absurd (P5.new b e1 q) (ext03 b (hext b (by rw [e]; simp)))
      have hstay5 : ∀ b, st.H b ≠ none → st5.H b ≠ none := fun b e => P5.stay b (hstay b e)
      have hB5 : st5.B = st.B := P5.B.trans hB
      have hlen5 : st5.ρ.length = st.ρ.length := P5.len.trans hlen
      have hext5 : ∀ b, h2.get? b ≠ none → h5.get? b ≠ none := fun b e => P5.ext b (ext03 b (hext b e))
      have hsi5 : Si (i + 1) h5 := W.frame _ _ _ hs3 fun b hbf o e => by
        by_cases q : b ∈ wr
        · -- the walk's own things
          refine (P5.old b o ?_ (fun i p hp hbp => hpw i p hp (hbp ▸ q)) e).1 fun z => hfz b hbf z.1
          cases e' : st'.H b with
          | none => rfl
          | some ob => exact absurd q (trk st' hnew b (by rw [e']; simp))
        · rcases hdep b hbf q with q' | ⟨q1, q2⟩
          · refine (P5.old b o ?_ (fun i p hp hbp => q' (.inr (hbp ▸ (F.sim.sys i p hp).1))) e).1 fun z => hfz b hbf z.1
            cases e' : st'.H b with
            | none => rfl
            | some ob =>
              have h0 : st.H b = none := by
                cases e2 : st.H b with
                | none => rfl
                | some o2 => exact absurd (.inl (by rw [e2]; simp)) q'
              obtain ⟨o2, ho2⟩ := hfp b hbf
              have := hnew b (by rw [e']; simp) h0
              rw [show ({ s with heap := h2, toks := t2 } : Shared).heap = h2 from rfl, this] at ho2; cases ho2
          · rcases hds with hqt | hds
            · exact P5.qt hqt b o (fun i p hp hbp => q2 (hbp ▸ (F.sim.sys i p hp).2.2)) e fun z => hfz b hbf z.1
            · obtain ⟨ob, hob⟩ := F.sim.ent b (hds b q1)
              have h3b : h3.get? b = some ob := (S3.keep _ _ hob).1 fun z => hfz b hbf z.1
              rw [h3b] at e; cases e
              exact (F5.sim.keep _ _ hob).1 fun z => hfz b hbf z.1
      cases r5 with
      | next => exact ⟨vs.length - (i + 1), by omega, i + 1, st5, h5, t5, rfl, hlt, rfl, q5, hsi5, F5.sim, f5, hold5, hnew5, hstay5, hB5, hlen5, hext5⟩
      | cont => exact ⟨vs.length - (i + 1), by omega, i + 1, st5, h5, t5, rfl, hlt, rfl, q5, hsi5, F5.sim, f5, hold5, hnew5, hstay5, hB5, hlen5, hext5⟩
      | brk => exact fin .next .next st5 h5 t5 q5 .next F5.sim hold5 hnew5 hstay5 hB5 hlen5 hext5
      | ret r => exact fin (.ret _) (.ret _) st5 h5 t5 q5 (.ret r) F5.sim hold5 hnew5 hstay5 hB5 hlen5 hext5
    · exact hfl.elim
  · have hi' : i = vs.length := by omega
    subst hi'
    rw [List.drop_length] at hfl
    simp only [fl_nil, fl_cons] at hfl
    refine W.done _ _ _ (hqh h hold) hyw hs_i fun h1 tk1 hk1 => wpAny_execs_nil ?_
    have S' : Sim G.hf (TT G) lay Sys (FZ A Sys) base st' h1 := ez ▸ Sim.leave (New := fun a => a ∈ wr) hS (fun b q => F.za q.1) hk1 (fun i p hp => (F.sim.sys i p hp).1) hSw (trk st' hnew) hbw
    refine hK .next .next st' _ hfl .next ⟨F.rm, F.eo, F.us, S', F.own, F.cold⟩ ⟨⟨h1, tk1, rfl⟩, fun b o e1 e2 e => ?_, fun b e1 e2 => fresh_keeps k (hnew b e1 e2), hstay, hB, hlen, fun b e1 e => ?_, nofun⟩
    · have hbw' : b ∉ wr := fun q => by rw [hwr b q] at e; cases e
      refine ⟨fun n => hk1 b o hbw' ((hold b o e1 e2 hbw' ((k2 b o e).1 n)).1 n), ?_⟩
      obtain ⟨_, g1⟩ := (k2 b o e).2
      obtain ⟨sl, g2⟩ := (hold b _ e1 e2 hbw' g1).2
      exact ⟨sl, hk1 b _ hbw' g2⟩
    · have hbw' : b ∉ wr := fun q => e1 (hwr b q)
      cases e' : h.get? b with
      | none => exact hext b (fun q => e1 (fresh_keeps k q)) e'
      | some o =>
        have := hk1 b o hbw' e'
        rw [show ({ s with heap := h1, toks := tk1 } : Shared).heap = h1 from rfl, this] at e; cases e
end

end Mine
end

section
set_option autoImplicit false
set_option maxRecDepth 100000
namespace Mine
open PySem

section
variable {prog : Program} {w : World} {A : Around} {E : Value → Shared → Prop} {env : Env}
variable {nm q : Str} {C N : Addr} {bs bm : List Value} {hdct : Bool} {sn : List Str} {sub : List Value} {ab : Bool} {col : Option Bool} {dd : Option Addr} {k0 k1 k2 k3 k5 : Option Value} {newId : String}
theorem raise_made {s : Shared} {x : Sem Value} {Q : Flow → Shared → Prop} (hbase : bm.contains (.type "BaseException") = true)
    (h : wpAny (model prog w) A x (fun v s₁ => ∃ e t, v = .ref e ∧ s₁.heap.get? C = some (excClassObj nm q C N bs bm hdct sn sub ab col dd k0 k1 k2 k3 k5 newId) ∧
      s₁.heap.get? e = some { cls := .ref C, data := .fields #[.ref t, .none, .none, .none, .bool false, .none] } ∧ Hq A s₁.heap ∧ (∀ y, A.handled = some (.ref y) → y ≠ e) ∧ (A.handled = none → E (.ref e) s₁) ∧
      (∀ y, A.handled = some (.ref y) → E (.ref e) { s₁ with heap := s₁.heap.update e (Obj.mapFields (·.setIfInBounds 2 (.ref y))) })) E s) :
    wpAny (model prog w) A (raiseStmt env (some x) none) Q E s := by
  have hcB : (Value.ref C :: bm).contains (.type "BaseException") = true := by rw [List.contains_cons, hbase, Bool.or_true]
  unfold raiseStmt
  refine wpAny_bind (wpAny_mono h (fun v s₁ h₁ => ?_) fun _ _ x => x)
  obtain ⟨e, t, rfl, hC, he, q1, q2, q3, q4⟩ := h₁
  obtain ⟨hp, g, d, tk, os⟩ := s₁
  repeat (first | with_reducible refine wpAny_loadPart_at he ?_ | with_reducible refine wpAny_loadPart_at hC ?_ | (with_reducible refine wpAny_isSubtype_exc hC ?_; rw [hcB]) | wp_step)
  exact raise_new q1 q2 he rfl (Nat.lt_of_sub_eq_succ (show 6 - 2 = Nat.succ 3 from rfl)) q3 q4
end

section
variable {G : PG} {d : Nat} {c : Sc}
theorem HdOk.hq {A : Around} {Sys : Addr → Prop} {h : Heap} (x : HdOk A Sys h) : Hq A h := x.imp id fun ⟨y, o, vs, h1, _, h2⟩ => ⟨y, o, vs, h1, h2⟩

theorem ss_rz {k : String} {m : E} {n : Str} {np cp pos : Pos} {z : Expr} (hdead : c.dead = false) (hk : k ∈ G.xs) (hg : isGlob c n k = true) (hz : noStar z = true) (hm : SE G d c m z) : SS G d c (.rz k m) (.Raise (some (.Call (.Name n np) [z] [] cp)) none pos) := by
  intro A env lay Sys base st s F Q X K E hW hK hX
  simp only [ws_0, ws_1, ws_2, ws_3, ws_4, ws_5, ws_6, ws_7, ws_8, ws_9, ws_10, ws_11, ws_12, ws_13, ws_14, ws_15, ws_16, pk_ret, pk_next] at hW
  obtain ⟨b0, T0, kb, n0⟩ := F.sim.topH
  obtain ⟨C, bm, N, nm, q, bs, hdct, sn, sub, ab, col, dd, k0, k1, k2, k3, k5, mN, h1, h2, h3, h4, h5, h6, _⟩ := T0.ex k hk
  have kk : ∀ {s₁ : Shared}, Kp (FZ A Sys) s s₁ → HK b0 s₁.heap := fun k₁ b o e => (k₁.hw b o (kb b o e)).1 fun q => by rw [n0 b (.inr q.2)] at e; cases e
  have hbase : bm.contains (.type "BaseException") = true := h5.hasType PySem.F.excBase_ValueError.hasBase
  have est : starEach [z] env = [(false, eval z env)] := starEach_cons hz
  rw [arm_exec_Raise]
  refine wpAny_bind (wpAny_standAt (raise_made (C := C) (nm := nm) (q := q) (N := N) (bs := bs) (bm := bm) (hdct := hdct) (sn := sn) (sub := sub) (ab := ab) (col := col) (dd := dd) (k0 := k0) (k1 := k1) (k2 := k2) (k3 := k3) (k5 := k5) (newId := "ValueError.__new__") hbase (wpAny_bind (wpAny_mono (wpAny_Call_ofName (ld_glob F hg h1 ?_)) (fun v s₃ h₃ => wpAny_bind (wpAny_standAt (wpAny_pure h₃))) fun _ _ x => x))))
  unfold callWith
  rw [est]
  refine wpAny_bind (wpAny_holding (Calls.evalArgs_plain (Calls.spliced_cons ((hm F).weak _ _ _ E hW (fun v val s₁ q1 r k₁ _ => Calls.spliced_nil ?_) fun e s' q => hX e s' (q.toS F)))))
  refine wpAny_bind (wpAny_standAt ?_)
  have F₁ := F.keeps k₁
  obtain ⟨hp, g, dr, tk, os⟩ := s₁
  refine wpAny_bind (wpAny_keeperOf_exc (kk k₁ _ _ h2) ?_)
  refine wpAny_bind (wpAny_call_exc_subT (hrest := Nat.le_of_ble_eq_true (show Nat.ble 1 16777216 = true from rfl)) PySem.F.excBase_ValueError (h5.keeps (kk k₁)) (kk k₁ _ _ h2) (h3.keeps (kk k₁)) h4 fun h' e hm' => wpAny_bind (wpAny_holding (wpAny_point (wpAny_pure ?_))))
  obtain ⟨t, ht, _, _⟩ := hm'.there
  have hne : ∀ y, A.handled = some (.ref y) → y ≠ e := fun y hy eq => by
    rcases F₁.hdo hdead with q | ⟨y', o, vs, g1, g2, g3, _⟩
    · rw [q] at hy; cases hy
    · rw [g1] at hy; cases hy; rw [eq, show ({ heap := hp, gens := g, drawn := dr, toks := tk, os := os } : Shared).heap = hp from rfl, hm'.new] at g3; cases g3
  have hnw : Nw Sys s.heap e := ⟨k₁.hw.ext hm'.new, fun q => F₁.sim.live e q hm'.new⟩
  have kH : HK hp h' := hm'.keeps
  have hkw : HW (FZ A Sys) s.heap h' := k₁.hw.trans (.of kH)
  refine ⟨e, t, rfl, kH _ _ (kk k₁ _ _ h2), ht, (F₁.hdo hdead).hq.keeps kH, hne, fun hn => hX _ _ (Rz.toS (st' := st) ?_ F), fun y hy => hX _ _ (Rz.toS (st' := st) ?_ F)⟩
  · obtain ⟨h0, t0, e0, _⟩ := k₁
    refine ⟨k, C, e, .none, q1, h1, rfl, ⟨h', tk, ?_, hkw⟩, fun _ => rfl, .inl ⟨hnw, _, _, ht, rfl, rfl, rfl, rfl⟩⟩
    injection e0 with e1 e2 e3 e4 e5
    rw [e2, e3, e5]
  · obtain ⟨h0, t0, e0, _⟩ := k₁
    refine ⟨k, C, e, .ref y, q1, h1, rfl, ⟨h'.update e (Obj.mapFields (·.setIfInBounds 2 (.ref y))), tk, ?_, upd_hw hkw hnw.1⟩, (fun hn => by rw [hn] at hy; cases hy), .inl ⟨hnw, _, _, Heap.get?_update_self _ ht rfl, rfl, rfl, rfl, rfl⟩⟩
    injection e0 with e1 e2 e3 e4 e5
    rw [e2, e3, e5]

theorem exc_matches {M : Model} {A : Around} {E : Value → Shared → Prop} {h : Heap} {g : Array GenState} {dr : Drawn} {tk : Nat} {os : OsState} {e C D : Addr} {oe : Obj} {Q : Bool → Shared → Prop} {nm q : Str} {N : Addr} {bs bm : List Value} {hdct : Bool} {sn : List Str} {sub : List Value} {ab : Bool} {col : Option Bool} {dd : Option Addr} {k0 k1 k2 k3 k5 : Option Value} {newId : String}
    {nm' q' : Str} {N' : Addr} {bs' bm' : List Value} {hdct' : Bool} {sn' : List Str} {sub' : List Value} {ab' : Bool} {col' : Option Bool} {dd' : Option Addr} {k0' k1' k2' k3' k5' : Option Value} {newId' : String}
    (hC : h.get? C = some (excClassObj nm q C N bs bm hdct sn sub ab col dd k0 k1 k2 k3 k5 newId)) (hD : h.get? D = some (excClassObj nm' q' D N' bs' bm' hdct' sn' sub' ab' col' dd' k0' k1' k2' k3' k5' newId')) (he : h.get? e = some oe) (hcls : oe.cls = .ref C) (hbase : bm'.contains (.type "BaseException") = true) (hsub : (Value.ref C :: bm).contains (.ref D) = true)
    (hq : Q true ⟨h, g, dr, tk, os⟩) : wpAny M A (excMatches (.ref e) (.ref D)) Q E ⟨h, g, dr, tk, os⟩ := by
  have hdB : (Value.ref D :: bm').contains (.type "BaseException") = true := by rw [List.contains_cons, hbase, Bool.or_true]
  have f := tc_notTuple
  unfold excMatches
  repeat (first | (with_reducible refine wpAny_loadPart_at he ?_; rw [hcls]) | with_reducible refine wpAny_loadPart_at hD ?_ | (with_reducible refine wpAny_isSubtype_exc hD ?_; rw [hdB]) | (with_reducible refine wpAny_isSubtype_exc hC ?_; rw [hsub]) | wp_step)
  exact hq

/-- behind the suite of a handler the name is gone -/
theorem sim_gone {hsh : HFn} {T : Heap → Prop} {lay : Nat → Option Place} {Sys Z : Addr → Prop} {base : Heap} {st : St} {h h' : Heap} {i : Nat} {L : Addr} {x : Str} {m : Str → Option Value} {v : Option Value} (S : Sim hsh T lay Sys Z base st h) (hp : lay i = some (.loc L x)) (hm : h.Ns L m) (hn : h'.Ns L (fun y => if y = x then v else m y)) (hs : Heap.SameBut L h h') :
    Sim hsh T lay Sys Z base { st with ρ := st.ρ.set i none } h' := by
  have hN : NN st.H Sys L := .inr (S.sys i _ hp).1
  have hk : ∀ b o, ¬ NN st.H Sys b → h.get? b = some o → h'.get? b = some o := fun b o nb e => (hs.2 b (fun q => nb (q ▸ hN))).trans e
  have hoth : ∀ j q, lay j = some q → j ≠ i → (∀ u, q.has h u → q.has h' u) ∧ (q.ok h → q.ok h') := fun j q hq hji => by
    cases q with
    | loc L' y =>
      by_cases hL : L' = L
      · subst hL
        have hne : y ≠ x := fun e => hji (S.inj j i _ hq (e ▸ hp))
        refine ⟨fun u hu => ?_, fun _ => ⟨_, hn⟩⟩
        obtain ⟨m', hm', e'⟩ := hu
        have : m' = m := by
          obtain ⟨o1, es1, ep1, g1, d1, _, f1⟩ := hm'
          obtain ⟨o2, es2, ep2, g2, d2, _, f2⟩ := hm
          rw [g1] at g2; cases g2
          rw [d1] at d2; cases d2
          funext z; rw [← f1, ← f2]
        subst this
        exact ⟨_, hn, by simp [hne, e']⟩
      · exact ⟨fun u hu => let ⟨m', a, b⟩ := hu; ⟨m', a.sameBut hs hL, b⟩, fun hu => let ⟨m', a⟩ := hu; ⟨m', a.sameBut hs hL⟩⟩
    | cell c =>
      have hne : ∀ v, h.IsCell c v → c ≠ L := by
        rintro v ⟨o, e, d⟩ rfl
        obtain ⟨o2, es2, ep2, g2, d2, _⟩ := hm
        rw [e] at g2; cases g2
        rw [d] at d2; cases d2
      exact ⟨fun u hu => Heap.IsCell.sameBut hu hs (hne _ hu), fun hu => let ⟨v', a⟩ := hu; ⟨v', a.sameBut hs (hne _ a)⟩⟩
  refine ⟨S.keep.but (S.sys i _ hp).2.1 hs.2, S.zs, S.top, fun j u q hj hq => ?_, fun j q hq => ?_, S.inj, S.sys, fun a o e => ?_, S.own, fun a q e => ?_, S.ent, S.dis⟩
  · by_cases hji : j = i
    · subst hji
      have hj' : (st.ρ.set j none)[j]? = some (some u) := hj
      rw [List.getElem?_set] at hj'
      split at hj'
      · split at hj' <;> cases hj'
      · exact absurd rfl ‹_›
    · have hj' : (st.ρ.set i none)[j]? = some (some u) := hj
      rw [List.getElem?_set_ne (Ne.symm hji)] at hj'
      obtain ⟨u', a1, a2⟩ := S.vals j u q hj' hq
      exact ⟨u', (hoth j q hq hji).1 u' a1, a2.gen (fun _ q => .inl q) hk⟩
  · by_cases hji : j = i
    · subst hji; rw [hp] at hq; cases hq; exact ⟨_, hn⟩
    · exact (hoth j q hq hji).2 (S.ok j q hq)
  · have e0 : st.H a = some o := e
    refine (S.objs a o e0).gen (fun _ q => .inl q) hk fun ob e' => (hs.2 a fun q => ?_).trans e'
    rw [q, show st.H L = none from (S.sys i _ hp).2.2] at e0; cases e0
  · by_cases ha : a = L
    · subst ha
      obtain ⟨o, es, ep, e', _⟩ := hn; rw [e'] at e; cases e
    · rw [hs.2 a ha] at e; exact S.live a q e

theorem ss_try {e : E} {cl : String} {i : Option Nat} {h : Bl} {y : Expr} {u : Str} {n : Option Str} {hs : List Stmt} {tp p0 q0 pos : Pos} (he : SE G d c e y) (hc : isComp y = false) (hg : isGlob c u cl = true) (hk : cl ∈ G.xs) (h1 : some1 hs = true) (hx : chkX c i n = true)
    (hh : SB G d { c with hot := true, dead := c.hot } h hs) : SS G d c (.tryEx e cl i h) (.Try [.Expr y p0] [.ExceptHandler (some (.Name u tp)) n hs q0] [] [] pos) := by
  intro A env lay Sys base st s F Q X K E hW hK hX
  simp only [ws_0, ws_1, ws_2, ws_3, ws_4, ws_5, ws_6, ws_7, ws_8, ws_9, ws_10, ws_11, ws_12, ws_13, ws_14, ws_15, ws_16, pk_ret, pk_next] at hW
  refine wpAny_Try_except (wpAny_execs_cons (wpAny_Expr_any ((he F).weak _ _ _ _ hW (fun v val s' q r k _ => wpAny_execs_nil (wpAny_execs_nil (hK .next .next st s' q .next (F.keeps k).toFx0 (Ps.ofKp k)))) fun e' s₁ r => ?_) (by simp [interactive, F.eo.kind]) (swaps_none hc)))
  obtain ⟨k, C, x, ctx, ⟨hsb, hH⟩, h2, rfl, kp, hctx, fly⟩ := r
  obtain ⟨L, hL, hA⟩ := F.own
  obtain ⟨rfl, g2, g3⟩ := isGlob_eq hg
  have hkx : k ∈ G.xs := (F.top.exn k (by simpa using and_l hsb)).resolve_right fun q => by rw [h2] at q; cases q
  have handle : ∀ h' tk, HW (FZ A Sys) s.heap h' → FrOk A Sys h' → Fly Sys s.heap x C ctx (· = .none) h' → wpAny (model G.prog G.w) A (handleBy (.ref x) env [.ExceptHandler (some (.Name (Str.ofString cl) tp)) n hs q0]) K E { s with heap := h', toks := tk } := by
    intro h₃ tk q1 q2 q3
    have mk : ∀ h₃, HW (FZ A Sys) s.heap h₃ → FrOk A Sys h₃ → Fly Sys s.heap x C ctx (· = .none) h₃ → Fx G d { c with hot := true, dead := c.hot } (A.mark (some (.ref x))) env lay Sys base st { s with heap := h₃, toks := tk } := by
      intro h₃ q1 q2 q3
      have kp3 : Kp (FZ A Sys) s { s with heap := h₃, toks := tk } := ⟨h₃, tk, rfl, q1⟩
      have F₃ := F.keeps kp3
      refine ⟨⟨⟨⟨F.rm.depth, F.rm.units⟩, F.rm.head⟩, F.eo, F.us, F₃.sim, F.own, nofun⟩, q2, ?_⟩
      cases hb : c.hot with
      | true => exact .inl ⟨rfl, rfl⟩
      | false =>
        obtain ⟨hn, oe, vs, he, hc, hd, h2, _⟩ := q3
        rw [hctx (F.cold hb)] at h2
        exact .inr (.inr ⟨x, oe, vs, rfl, hn.2, he, hd, h2⟩)
    have F₃ := F.keeps (s' := { s with heap := h₃, toks := tk }) ⟨h₃, tk, rfl, q1⟩
    obtain ⟨D, bm', N', nm', q', bs', hdct', sn', sub', ab', col', dd', k0', k1', k2', k3', k5', mN', d1, d2, d3, d4, d5, d6, _⟩ := F₃.top.ex cl hk
    obtain ⟨C', bm, N, nm, q, bs, hdct, sn, sub, ab, col, dd, k0, k1, k2, k3, k5, mN, c1, c2, c3, c4, c5, c6, _⟩ := F₃.top.ex k hkx
    rw [h2] at c1; cases c1
    obtain ⟨hnx, oe, vs, hxe, hxc, hxd, _⟩ := id q3
    have hbase : bm'.contains (.type "BaseException") = true := d5.hasType PySem.F.excBase_ValueError.hasBase
    refine wpAny_handleBy_cons (codeAny_handlers_test (Calls.Name_function_global F.eo.kind (F.eo.gl _ g2) (Calls.loadGlobal_global (by rw [F.eo.glob]; exact F₃.top.g) d1 ?_) g3)) (by intro q; cases q)
    refine exc_matches c2 d2 hxe hxc hbase ((c6 cl hk D d1).trans hsb) ?_
    obtain ⟨b₀, body, rfl⟩ := some1_inv h1
    have hz : ∀ b, FZ (A.mark (some (.ref x))) Sys b = FZ A Sys b := fun _ => rfl
    cases n with
    | none =>
      cases i with
      | some i => exact ff hx
      | none =>
        refine codeAny_handlers_suite (set_fly (A := A.mark (some (.ref x))) (h := s.heap) (s := { s with heap := h₃, toks := tk }) q2 q1 q3 fun h₄ r1 r2 r3 => ?_)
        refine hh (mk h₄ r1 r2 r3) Q _ _ _ hH (fun f fl st' s' q r F' p => ?_) fun e s' q => ?_
        · exact hK f fl st' s' q r ⟨F.rm, F.eo, F.us, F'.sim, F.own, F.cold⟩ ((Ps.ofKp (s' := { s with heap := h₄, toks := tk }) ⟨h₄, tk, rfl, r1⟩).trans (p.weak nofun))
        · obtain ⟨_, _, _, _, _, q, _⟩ := q; exact q.elim
    | some n =>
      cases i with
      | none => exact ff hx
      | some i =>
        obtain ⟨x1, x2⟩ := (Bool.and_eq_true _ _).mp hx
        obtain ⟨v1, v2⟩ := isVar_eq x1
        have x2 : c.names.lookup n = some .local := by simpa using x2
        obtain ⟨hi, hH⟩ := hH
        have hkd := F.eo.lc _ x2
        refine codeAny_handlers_suite_as (set_fly (A := A.mark (some (.ref x))) (h := s.heap) (s := { s with heap := h₃, toks := tk }) q2 q1 q3 fun h₄ r1 r2 r3 => ?_)
        have F₄ := mk h₄ r1 r2 r3
        obtain ⟨b0, T0, kb, n0⟩ := F₄.sim.topH
        obtain ⟨hnx, oe, vs, hxe, hxc, hxd, _⟩ := id r3
        have hrv : RV (NN st.H Sys) h₄ (.exc k) (.ref x) := by
          refine .exc ?_ ?_ ⟨C, oe, vs, G.mg, hxe, hxc, hxd, F₄.top.g, h2⟩
          · rintro (q | q)
            · cases e : st.H x with
              | none => exact q e
              | some ob => exact ((F₄.sim.objs x ob e).nofields hxe hxd).elim
            · exact hnx.2 q
          · intro q
            obtain ⟨o, es, ep, e, _⟩ := T0.g
            rw [n0 _ q] at e; cases e
        refine st_var F₄.eo F₄.sim v1 hi (by rw [hkd]; decide) hrv fun h₅ t p hp hsb S' => ?_
        have tc : Tc [i] lay h₄ h₅ := fun b o nb e => (hsb.2 b (nb i (by simp) p hp)).trans e
        have ps : Ps true lay (FZ A Sys) st { s with heap := h₄, toks := tk } { st with ρ := st.ρ.set i (some (.exc k)) } { s with heap := h₅, toks := t } := Ps.ofTc S' tc (by simp)
        have F₅ := F₄.ps ⟨F₄.rm, F₄.eo, F₄.us, S', F₄.own, F₄.cold⟩ ps
        refine hh F₅ _ _ _ _ hH (fun f fl st' s' q r F' p' => ?_) fun e s' q => ?_
        · obtain ⟨pl, hpl, hc⟩ := F.eo.vars n i v1
          have hpl' : lay i = some (.loc env.locals n) := by
            rcases hc with ⟨_, rfl⟩ | ⟨hq, _⟩
            · exact hpl
            · rw [hkd] at hq; rcases hq with hq | hq <;> cases hq
          obtain ⟨m, hm⟩ := F'.sim.ok i _ hpl'
          refine wpAny_nameGoes_keeps hkd hm (by rw [F.eo.kind]; rfl) fun h₆ v6 hn6 hs6 => ?_
          have S6 := sim_gone F'.sim hpl' hm hn6 hs6
          have tc6 : Tc [i] lay s'.heap h₆ := fun b o nb e => (hs6.2 b (nb i (by simp) _ hpl')).trans e
          have ps6 : Ps false lay (FZ A Sys) st' s' { st' with ρ := st'.ρ.set i none } { s' with heap := h₆, toks := s'.toks + 1 } := Ps.ofTc S6 tc6 (by simp)
          have pa : Ps false lay (FZ A Sys) st { s with heap := h₄, toks := tk } { st with ρ := st.ρ.set i (some (.exc k)) } { s with heap := h₅, toks := t } := ps.weak nofun
          have pb : Ps false lay (FZ A Sys) { st with ρ := st.ρ.set i (some (.exc k)) } { s with heap := h₅, toks := t } st' s' := p'.weak nofun
          refine hK f fl _ _ q ?_ ⟨F.rm, F.eo, F.us, S6, F.own, F.cold⟩ ((Ps.ofKp (s' := { s with heap := h₄, toks := tk }) ⟨h₄, tk, rfl, r1⟩).trans (pa.trans (pb.trans ps6)))
          cases r with
          | next => exact .next
          | brk => exact .brk
          | cont => exact .cont
          | ret r => exact .ret (r.ps F'.sim ps6)
        · obtain ⟨_, _, _, _, _, q, _⟩ := q; exact q.elim
  have fin : ∀ h' tk, HW (FZ A Sys) s.heap h' → FrOk A Sys h' → Fly Sys s.heap x C ctx (· = rawInt L) h' → wpAny (model G.prog G.w) A (setFlight (.ref x) none) (fun _ s₃ => wpAny (model G.prog G.w) A (handleBy (.ref x) env [.ExceptHandler (some (.Name (Str.ofString cl) tp)) n hs q0]) K E s₃) E { s with heap := h', toks := tk } :=
    fun h' tk k1 k2 k3 => set_fly (s := { s with heap := h', toks := tk }) k2 k1 k3 fun h₃ q1 q2 q3 => handle h₃ tk q1 q2 q3
  have fr₁ := F.fr.kz kp.hw
  obtain ⟨h₁, t₁, rfl, kw⟩ := kp
  rcases fly with f | f
  · exact note_fly0 (s := { s with heap := h₁, toks := t₁ }) fr₁ hA hL kw f fun h'' k1 k2 k3 => fin h'' t₁ k1 k2 k3
  · exact note_fly (s := { s with heap := h₁, toks := t₁ }) fr₁ hA hL kw (f.mono fun v q => q.imp id fun ⟨M, ⟨e1, l1, a1, a2⟩, a3⟩ => by
      obtain ⟨e2, l2, b1, b2⟩ := hA
      rw [b1] at a1; cases a1
      rw [b2] at a2; cases a2; exact a3) fun h'' k1 k2 k3 => fin h'' t₁ k1 k2 k3
end
end Mine
end

section
set_option autoImplicit false
namespace Mine
open PySem

section
variable {G : PG} {d : Nat}

theorem WS_var {C : Cx} {i : Nat} {e : E} {st : St} {Q : Fl → St → Prop} {X : String → St → Prop} (h : WS C (.assign (.var i) e) st Q X) : WS C (.own i (.pure e)) st Q X := h

mutual
theorem sndS (hc : CallSnd G d) : ∀ (m : S) (c : Sc) (x : Stmt), c.fns = G.tbl.map (·.1) ∧ c.xs = G.xs ∧ c.hots = G.hots → chkS c m x = true → SS G d c m x
  | .expr e, c, x, hf, h => ff h
  | .assign t e, c, x, hf, h => by
    replace h := onAssign_inv h; obtain ⟨tg, y, p, rfl, h⟩ := h
    · simp only [Bool.and_eq_true] at h
      obtain ⟨⟨⟨⟨h1, h2⟩, h3⟩, h4⟩, h5⟩ := h
      cases t with
      | var i =>
        intro F Q X K E hW hK hX
        exact snd_own hc hf h1 (a := .pure e) h3 h4 F Q X K E (WS_var hW) hK hX
      | tup is => exact ff h5
  | .own i a, c, x, hf, h => by
    replace h := onAssign_inv h; obtain ⟨tg, y, p, rfl, h⟩ := h
    simp only [Bool.and_eq_true] at h
    exact snd_own hc hf h.1.1 h.1.2 h.2
  | .append e a, c, x, hf, h => by
    replace h := onExpr_inv h; obtain ⟨y, p, rfl, h⟩ := h
    replace h := onCall_inv h; obtain ⟨g, xs, ks, cp, rfl, h⟩ := h
    replace h := (Bool.and_eq_true _ _).mp h; obtain ⟨hk, h⟩ := h
    replace h := one_inv h; obtain ⟨z, rfl, h⟩ := h
    replace h := onAttr_inv h; obtain ⟨o, n, ap, rfl, h⟩ := h
    cases ks with
    | cons => exact ff hk
    | nil =>
      simp only [Bool.and_eq_true, decide_eq_true_eq] at h
      obtain ⟨⟨⟨⟨⟨rfl, h2⟩, h3⟩, h4⟩, h5⟩, h6⟩ := h
      exact ss_append (sndE hc e c _ hf h5).1 (sndA hc a c _ hf h6) h3 h4 h2
  | .pop t e, c, x, hf, h => ff h
  | .setitem a b e, c, x, hf, h => by
    replace h := onAssign_inv h; obtain ⟨tg, y, p, rfl, h⟩ := h
    replace h := onSub_inv h; obtain ⟨o, i, p', rfl, h⟩ := h
    simp only [Bool.and_eq_true, Bool.not_eq_true'] at h
    obtain ⟨⟨⟨h1, h2⟩, h3⟩, h4⟩ := h
    exact ss_setitem (sndE hc a c _ hf h1).1 (sndE hc b c _ hf h2).1 (sndE hc e c _ hf h3).1 h4
  | .setkey a b e, c, x, hf, h => ff h
  | .setlast a e, c, x, hf, h => ff h
  | .setattr e n v, c, x, hf, h => ff h
  | .ite t a b, c, x, hf, h => by
    replace h := onIfS_inv h; obtain ⟨y, bs, os, p, rfl, h⟩ := h
    simp only [Bool.and_eq_true] at h
    obtain ⟨⟨h1, h2⟩, h3⟩ := h
    exact ss_ite (sndE hc t c _ hf h1).2 (sndB hc a c _ hf h2) (sndB hc b c _ hf h3)
  | .while t b, c, x, hf, h => by
    replace h := onWhile_inv h; obtain ⟨y, bs, p, rfl, h⟩ := h
    simp only [Bool.and_eq_true] at h
    exact ss_while (sndE hc t c _ hf h.1).2 (sndB hc b c _ hf h.2)
  | .for t it b, c, x, hf, h => by
    replace h := onFor_inv h; obtain ⟨tg, y, bs, p, rfl, h⟩ := h
    simp only [Bool.and_eq_true, Bool.not_eq_true'] at h
    obtain ⟨⟨⟨⟨⟨h1, h2⟩, h3⟩, h5⟩, h4⟩, h6⟩ := h
    exact ss_for ((sndI hc it c _ hf h2).1 (ezOk_walk h5)) h1 h3 (ezOk_inv h5) h6 (sndB hc b c _ hf h4)
  | .ret e, c, x, hf, h => by
    replace h := onRet_inv h; obtain ⟨y, p, rfl, h⟩ := h
    exact ss_ret (sndE hc e c _ hf h).1
  | .retO e, c, x, hf, h => by
    replace h := onRet_inv h; obtain ⟨y, p, rfl, h⟩ := h
    obtain ⟨h1, h2⟩ := (Bool.and_eq_true _ _).mp h
    exact ss_retO (sa_thaw (sndE hc e c _ hf h1).1 h2)
  | .raise k e, c, x, hf, h => ff h
  | .rz k m, c, x, hf, h => by
    replace h := onRaise_inv h; obtain ⟨y, p, rfl, h⟩ := h
    replace h := onCallN_inv h; obtain ⟨n, xs, q, q', rfl, h⟩ := h
    replace h := one_inv h; obtain ⟨z, rfl, h⟩ := h
    simp only [Bool.and_eq_true, Bool.not_eq_true'] at h
    obtain ⟨⟨⟨⟨h1, h2⟩, h3⟩, h4⟩, h5⟩ := h
    exact ss_rz h5 (by rw [← hf.2.1]; simpa using h2) h1 h3 (sndE hc m c _ hf h4).1
  | .tryEx e k i b, c, x, hf, h => by
    replace h := onTry_inv h; obtain ⟨bs, t, n, hs, q, p, rfl, h⟩ := h
    replace h := one_inv h; obtain ⟨b', rfl, h⟩ := h
    simp only [Bool.and_eq_true] at h
    obtain ⟨⟨⟨⟨⟨h1, h2⟩, h3⟩, h4⟩, h5⟩, h6⟩ := h
    replace h1 := onExpr_inv h1; obtain ⟨y, p', rfl, h1⟩ := h1
    replace h2 := onName_inv h2; obtain ⟨u, p'', rfl, h2⟩ := h2
    simp only [Bool.and_eq_true, Bool.not_eq_true'] at h1
    exact ss_try (sndE hc e c _ hf h1.1).1 h1.2 h2 (by rw [← hf.2.1]; simpa using h3) h4 h5 (sndB hc b { c with hot := true, dead := c.hot } _ hf h6)
theorem sndB (hc : CallSnd G d) : ∀ (b : Bl) (c : Sc) (xs : List Stmt), c.fns = G.tbl.map (·.1) ∧ c.xs = G.xs ∧ c.hots = G.hots → chkB c b xs = true → SB G d c b xs
  | .nil, c, xs, hf, h => by
    cases xs with
    | nil => exact sb_nil
    | cons => exact ff h
  | .cons m b, c, xs, hf, h => by
    cases xs with
    | nil => exact ff h
    | cons x r =>
      replace h := (Bool.and_eq_true _ _).mp h
      exact sb_cons (sndS hc m c _ hf h.1) (sndB hc b c _ hf h.2)
end
end

end Mine
end

section
set_option autoImplicit false
namespace Mine
open PySem

theorem cells_some : ∀ {names : List (Str × NameKind)} {n : Nat} {acc : List (Str × Addr)} {x : Str}, (names.lookup x = some .cell ∧ (names.map (·.1)).Nodup) ∨ (acc.lookup x).isSome → ((cellsFrom n names acc).lookup x).isSome
  | [], _, _, _, h => by
    rcases h with ⟨h, _⟩ | h
    · simp at h
    · exact h
  | (y, k) :: r, n, acc, x, h => by
    unfold cellsFrom
    split
    · rename_i hk
      refine cells_some ?_
      rcases h with ⟨h, hn⟩ | h
      · simp only [List.lookup_cons] at h
        cases hx : x == y with
        | true => right; simp only [List.lookup_cons, hx]; rfl
        | false => rw [hx] at h; simp only [List.map_cons, List.nodup_cons] at hn; exact .inl ⟨h, hn.2⟩
      · right
        simp only [List.lookup_cons]
        split
        · rfl
        · exact h
    · rename_i hk
      refine cells_some ?_
      rcases h with ⟨h, hn⟩ | h
      · simp only [List.lookup_cons] at h
        cases hx : x == y with
        | true => rw [hx] at h; simp only at h; cases h; simp at hk
        | false => rw [hx] at h; simp only [List.map_cons, List.nodup_cons] at hn; exact .inl ⟨h, hn.2⟩
      · exact .inr h

theorem bindL_get {k : Str → Option NameKind} : ∀ {names : List Str} {vals : List Value} {m : Str → Option Value} {x : Str}, names.Nodup → k x = some .local → bindL k (names.zip vals) m x = (((names.zip vals).lookup x).or (m x))
  | [], _, _, _, _, _ => by simp [bindL]
  | _ :: _, [], _, _, _, _ => by simp [bindL]
  | n :: ns, v :: vs, m, x, hn, hk => by
    rw [List.nodup_cons] at hn
    simp only [List.zip_cons_cons, bindL]
    rw [bindL_get hn.2 hk]
    simp only [List.lookup_cons]
    cases hx : x == n with
    | true =>
      have : x = n := by simpa using hx
      subst this
      have hnone : (ns.zip vs).lookup x = none := by
        cases e : (ns.zip vs).lookup x with
        | none => rfl
        | some w => exact absurd (List.of_mem_zip (mem_lookup e)).1 hn.1
      simp [hnone, hk]
    | false =>
      have hne : x ≠ n := by simpa using hx
      simp only
      congr 1
      split
      · simp [hne]
      · rfl
theorem bindC_get {k : Str → Option NameKind} : ∀ {names : List Str} {vals : List Value} {m : Str → Option Value} {x : Str}, names.Nodup → k x ≠ some .local → bindC k (names.zip vals) m x = (((names.zip vals).lookup x).or (m x))
  | [], _, _, _, _, _ => by simp [bindC]
  | _ :: _, [], _, _, _, _ => by simp [bindC]
  | n :: ns, v :: vs, m, x, hn, hk => by
    rw [List.nodup_cons] at hn
    simp only [List.zip_cons_cons, bindC]
    rw [bindC_get hn.2 hk]
    simp only [List.lookup_cons]
    cases hx : x == n with
    | true =>
      have : x = n := by simpa using hx
      subst this
      have hnone : (ns.zip vs).lookup x = none := by
        cases e : (ns.zip vs).lookup x with
        | none => rfl
        | some w => exact absurd (List.of_mem_zip (mem_lookup e)).1 hn.1
      simp [hnone, hk]
    | false =>
      have hne : x ≠ n := by simpa using hx
      simp only
      congr 1
      split
      · rfl
      · simp [hne]

theorem lookup_zip_at {β : Type} : ∀ {names : List Str} {vals : List β} {i : Nat} {x : Str} {v : β}, names.Nodup → names[i]? = some x → vals[i]? = some v → (names.zip vals).lookup x = some v
  | [], _, _, _, _, _, h, _ => by simp at h
  | _ :: _, [], _, _, _, _, _, h => by simp at h
  | n :: ns, w :: ws, 0, x, v, _, h1, h2 => by simp at h1 h2; subst h1 h2; simp
  | n :: ns, w :: ws, i + 1, x, v, hn, h1, h2 => by
    rw [List.nodup_cons] at hn
    simp only [List.getElem?_cons_succ] at h1 h2
    have hne : x ≠ n := fun e => hn.1 (e ▸ List.mem_of_getElem? h1)
    simp only [List.zip_cons_cons, List.lookup_cons]
    rw [show (x == n) = false from by simpa using hne]
    exact lookup_zip_at hn.2 h1 h2
theorem lookup_range {xs : List Str} {x : Str} {i : Nat} (h : (xs.zip (List.range xs.length)).lookup x = some i) : xs[i]? = some x := by
  rw [List.range_eq_range'] at h
  obtain ⟨j, h1, h2⟩ := lookup_zip h
  rw [h2, Nat.zero_add]; exact h1

structure FnOk (fns xs : List String) (hot : Bool) (hots : List String) (fn : Fn) (dr : DefRec) : Prop where
  pos : dr.params.posonlyargs = []
  kwo : dr.params.kwonlyargs = []
  va : dr.params.vararg = none
  kw : dr.params.kwarg = none
  args : dr.params.args.map (·.arg) = (fn.vars.map Str.ofString).take fn.np
  le : fn.np ≤ fn.vars.length
  nd : (fn.vars.map Str.ofString).Nodup
  st : ∀ x ∈ fn.vars.map Str.ofString, (dr.scope.names.lookup x = some .local ∨ dr.scope.names.lookup x = some .cell) ∧ (x == ("__classdict__" : Str)) = false
  kind : dr.scope.kind = .function
  gen : dr.scope.isGenerator = false
  cor : dr.scope.isCoroutine = false
  names : (dr.scope.names.map (·.1)).Nodup
  nv : fn.vars.length ≤ fn.nv
  body : chkB (fnSc fns xs hot hots fn dr) fn.body dr.body = true
theorem fnOk {fns xs : List String} {hot : Bool} {hots : List String} {fn : Fn} {dr : DefRec} (h : chkFn fns xs hot hots fn dr = true) : FnOk fns xs hot hots fn dr := by
  unfold chkFn plainParams at h
  simp only [Bool.and_eq_true, decide_eq_true_eq, List.all_eq_true, Bool.not_eq_true'] at h
  obtain ⟨⟨⟨⟨⟨⟨⟨⟨⟨⟨⟨⟨h1, h2⟩, h3⟩, h4⟩, h5⟩, h6⟩, h7⟩, h8⟩, h9⟩, h10⟩, h11⟩, h12⟩, h13⟩ := h
  obtain ⟨⟨⟨⟨⟨a1, a2⟩, a3⟩, a4⟩, a5⟩, a6⟩ := h1
  refine ⟨by simpa using a1, by simpa using a3, by simpa using a2, by simpa using a4, h2, h3, h5, fun x hx => ?_, h7, h8, h9, h11, h12, h13⟩
  obtain ⟨q1, q2⟩ := h6 x hx
  simp only [canStore, Bool.or_eq_true, decide_eq_true_eq] at q1
  exact ⟨q1, q2⟩

/-- where a function's names stand -/
noncomputable def layF (names : List (Str × NameKind)) (cells : List (Str × Addr)) (L : Addr) (xs : List Str) : Nat → Option Place := fun i => match xs[i]? with
  | none => none
  | some x => if names.lookup x = some .local then some (.loc L x) else (cells.lookup x).map .cell

theorem RmC.deeper {d : Nat} {A : Around} {env : Env} (R : RmC (d + 1) A) (h1 : env.scope.isGenerator = false) (h2 : env.scope.isCoroutine = false) (h3 : env.builtins = builtinsNs) (h4 : env.globals = mainGlobals) : RmF d (A.deeper env) := by
  obtain ⟨l, hf⟩ := R.fr
  refine ⟨⟨by have := R.depth; show A.depth + 1 + d + 150 < recursionLimit; omega, by have := R.units; show A.units + 3 + 20 * d + 200 < cLine; omega⟩, env, l, ?_, h1, h2, h3, h4⟩
  show A.frames.map (env :: ·) = _
  rw [hf]; rfl

theorem call_step {G : PG} {d : Nat} (hc : CallSnd G d) : CallSnd G (d + 1) := by
  intro A H Sys s f fa vs vals R T hO hlive hdis hfr hhd hcold hmg hrv Q X K E hW hK hX
  obtain ⟨b0, T0, k0, n0⟩ := T
  have T := T0.keeps k0
  have ho := hO
  simp only [PG.cx, cxN, runN] at hW
  split at hW
  · exact hW.elim
  · rename_i fn hfn
    obtain ⟨hnp, hnv, hW⟩ := hW
    obtain ⟨dr, a, o, pm, code, doc, h1, h2, h3, h4, h5⟩ := T.fn f fn hfn
    rw [hmg] at h1; cases h1
    have O := fnOk h5
    have hlen := hrv.length
    let xs := fn.vars.map Str.ofString
    have hxl : xs.length = fn.vars.length := by simp [xs]
    have htake : (xs.take fn.np).length = vals.length := by rw [List.length_take, hxl]; have := O.le; omega
    have hndt : (xs.take fn.np).Nodup := List.Nodup.sublist (List.take_sublist _ _) O.nd
    have hkind : ∀ x ∈ (xs.take fn.np).zip vals, dr.scope.names.lookup x.1 = some .local ∨ (dr.scope.names.lookup x.1 = some .cell ∧ ((cellsFrom (s.heap.objs.size + 1) dr.scope.names []).lookup x.1).isSome = true) := by
      intro x hx
      have hm : x.1 ∈ xs := List.mem_of_mem_take (List.of_mem_zip hx).1
      rcases (O.st x.1 hm).1 with q | q
      · exact .inl q
      · exact .inr ⟨q, cells_some (.inl ⟨q, O.names⟩)⟩
    refine wpAny_call (codeAny_call_cells (fd := Calls.docDef dr.name dr.params dr.body dr.scope pm code doc) (binds := (xs.take fn.np).zip vals) (by have := R.depth; omega) h2 h3 T.nolimit h4 rfl (bind_plain O.pos O.args O.kwo O.va O.kw rfl htake hndt) rfl hkind (fun s₁ x => ?_) O.cor O.gen O.kind)
    generalize hEnv : callEnvC (Calls.docDef dr.name dr.params dr.body dr.scope pm code doc) s.heap.objs.size fa = env at x ⊢
    have e1 : env.locals = s.heap.objs.size := by rw [← hEnv]; rfl
    have e2 : env.cells = cellsFrom (s.heap.objs.size + 1) dr.scope.names [] := by rw [← hEnv]; rfl
    have e3 : env.scope = dr.scope := by rw [← hEnv]; rfl
    have e4 : env.globals = mainGlobals := by rw [← hEnv]; rfl
    have e5 : env.builtins = builtinsNs := by rw [← hEnv]; rfl
    have e6 : ∀ y, env.kindOf y = dr.scope.names.lookup y := fun y => by unfold Env.kindOf; rw [e3]
    -- the frame's places
    let lay : Nat → Option Place := layF dr.scope.names env.cells env.locals xs
    let New : Addr → Prop := fun b => b = env.locals ∨ ∃ y, env.cells.lookup y = some b
    let Sys' : Addr → Prop := fun a => Sys a ∨ New a
    have hLf : s.heap.get? env.locals = none := by rw [e1]; exact fresh_size _
    have hcf : ∀ y b, env.cells.lookup y = some b → s.heap.get? b = none := fun y b q => by
      have h' : env.locals < b := x.above y b (mem_of_lookup q)
      rw [e1] at h'
      exact Heap.get?_none_of_le (Nat.le_of_lt h')
    have hNf : ∀ b, New b → s.heap.get? b = none := by
      rintro b (rfl | ⟨y, q⟩)
      · exact hLf
      · exact hcf y b q
    have hNl : ∀ b, New b → s₁.heap.get? b ≠ none := by
      rintro b (rfl | ⟨y, q⟩) e
      · obtain ⟨o, es, ep, ho', _⟩ := x.toInCall.ns
        rw [ho'] at e; cases e
      · obtain ⟨o, ho', _⟩ := x.cell y b q
        rw [ho'] at e; cases e
    have hk : HK s.heap s₁.heap := x.toInCall.keep
    have hHf : ∀ b, s.heap.get? b = none → H b = none := fun b e => by
      cases q : H b with
      | none => rfl
      | some o =>
        obtain ⟨ob, e'⟩ := (ho b o q).exists
        rw [e] at e'; cases e'
    have hlay : ∀ i p, lay i = some p → ∃ y, xs[i]? = some y ∧ ((dr.scope.names.lookup y = some .local ∧ p = .loc env.locals y) ∨ (dr.scope.names.lookup y = some .cell ∧ ∃ b, env.cells.lookup y = some b ∧ p = .cell b)) := by
      intro i p hp
      simp only [lay, layF] at hp
      split at hp
      · cases hp
      · rename_i y hy
        refine ⟨y, hy, ?_⟩
        split at hp
        · rename_i hl; cases hp; exact .inl ⟨hl, rfl⟩
        · rename_i hl
          simp only [Option.map_eq_some_iff] at hp
          obtain ⟨b, hb, rfl⟩ := hp
          exact .inr ⟨((O.st y (List.mem_of_getElem? hy)).1).resolve_left hl, b, hb, rfl⟩
    have hplN : ∀ i p, lay i = some p → New p.addr := by
      intro i p hp
      obtain ⟨y, _, ⟨_, rfl⟩ | ⟨_, b, hb, rfl⟩⟩ := hlay i p hp
      · exact .inl rfl
      · exact .inr ⟨y, hb⟩
    have hN : ∀ b, NN H Sys' b → NN H Sys b ∨ s.heap.get? b = none := by
      rintro b (q | q | q)
      · exact .inl (.inl q)
      · exact .inl (.inr q)
      · exact .inr (hNf b q)
    have hrv' : RVs (NN H Sys') s₁.heap vs vals := hrv.gen hN fun b o _ e => hk b o e
    have S : Sim G.hf (TT G) lay Sys' (FZ (A.deeper env) Sys') s.heap ⟨vs.map some ++ List.replicate (fn.nv - fn.np) none, H, H⟩ s₁.heap := by
      refine ⟨.of hk, fun _ q => q.2, ⟨b0, T0, k0, fun a q => q.elim (fun q => q.elim (fun q => n0 a (.inr q)) fun q => (HW.of (Z := Sys) k0).ext (hNf a q)) fun q => n0 a (.inl q)⟩, fun i v p hv hp => ?_, fun i p hp => ?_, fun i j p hi hj => ?_, fun i p hp => ⟨.inr (hplN i p hp), hNf _ (hplN i p hp), hHf _ (hNf _ (hplN i p hp))⟩, fun a o e => ?_, fun a h1 h2 => absurd h2 h1, fun a q e => ?_, fun a q => ?_, fun a q => q.elim (hdis a) fun q => hHf _ (hNf a q)⟩
      · have hv' : vs[i]? = some v := by
          have hv : (vs.map some ++ List.replicate (fn.nv - fn.np) none)[i]? = some (some v) := hv
          rw [List.getElem?_append] at hv
          split at hv
          · simpa using hv
          · rw [List.getElem?_replicate] at hv
            split at hv <;> simp at hv
        obtain ⟨val, hval, r⟩ := hrv'.get i hv'
        refine ⟨val, ?_, r⟩
        have hi : i < fn.np := by
          obtain ⟨q, _⟩ := List.getElem?_eq_some_iff.mp hv'
          omega
        obtain ⟨y, hy, hc'⟩ := hlay i p hp
        have hyt : (xs.take fn.np)[i]? = some y := by rw [List.getElem?_take, if_pos hi]; exact hy
        have hlk := lookup_zip_at hndt hyt hval
        rcases hc' with ⟨hl, rfl⟩ | ⟨hl, b, hb, rfl⟩
        · refine ⟨_, x.toInCall.ns, ?_⟩
          rw [bindL_get hndt (by rw [e6]; exact hl), hlk]; rfl
        · have := x.cell y b hb
          rw [bindC_get hndt (by rw [e6, hl]; simp), hlk] at this
          exact this
      · obtain ⟨y, hy, ⟨_, rfl⟩ | ⟨_, b, hb, rfl⟩⟩ := hlay i p hp
        · exact ⟨_, x.toInCall.ns⟩
        · exact ⟨_, x.cell y b hb⟩
      · obtain ⟨y, hy, hc1⟩ := hlay i p hi
        obtain ⟨z, hz, hc2⟩ := hlay j p hj
        have hyz : y = z := by
          rcases hc1 with ⟨_, rfl⟩ | ⟨_, b, hb, rfl⟩
          · rcases hc2 with ⟨_, e⟩ | ⟨_, b, hb, e⟩
            · cases e; rfl
            · cases e
          · rcases hc2 with ⟨_, e⟩ | ⟨_, b', hb', e⟩
            · cases e
            · cases e
              exact name_of_addr x.apart (mem_of_lookup hb) (mem_of_lookup hb')
        subst hyz
        obtain ⟨l1, q1⟩ := List.getElem?_eq_some_iff.mp hy
        obtain ⟨l2, q2⟩ := List.getElem?_eq_some_iff.mp hz
        exact nodup_inj O.nd l1 l2 (q1.trans q2.symm)
      · exact (ho a o e).gen hN (fun b o _ e => hk b o e) fun o e => hk a o e
      · rcases q with q | q
        · cases e' : s.heap.get? a with
          | none => exact hlive a q e'
          | some ob => rw [hk _ _ e'] at e; cases e
        · exact hNl a q e
      · cases e' : H a with
        | none => exact absurd e' q
        | some ob => exact (ho a ob e').exists
    have EO : EnvOk env (fnSc (G.tbl.map (·.1)) G.xs (G.hots.contains f) G.hots fn dr).names (fnSc (G.tbl.map (·.1)) G.xs (G.hots.contains f) G.hots fn dr).σ lay := by
      refine ⟨by rw [e3]; exact O.kind, e4, e5, fun y q => by rw [e6]; exact q, fun y q => by rw [e6]; exact q, fun y q => by rw [e6]; exact q, fun y q => .inr (by rw [e6]; exact q), fun y i q => ?_⟩
      have q' : xs[i]? = some y := by
        refine lookup_range ?_
        rw [hxl]; exact q
      obtain ⟨hst, hcd⟩ := O.st y (List.mem_of_getElem? q')
      rcases hst with hl | hl
      · refine ⟨.loc env.locals y, ?_, .inl ⟨by rw [e6]; exact hl, rfl⟩⟩
        simp only [lay, layF, q', hl, if_true]
      · have hcs : (env.cells.lookup y).isSome := by rw [e2]; exact cells_some (.inl ⟨hl, O.names⟩)
        obtain ⟨b, hb⟩ := Option.isSome_iff_exists.mp hcs
        refine ⟨.cell b, ?_, .inr ⟨.inl (by rw [e6]; exact hl), hcd, b, hb, rfl⟩⟩
        simp only [lay, layF, q', hl, hb]
        rfl
    have eF : env.frame = some env.locals := by rw [← hEnv]; rfl
    obtain ⟨lv, l₀, hl₀, hfs⟩ := hfr
    have hA' : (A.deeper env).frames = some (env :: l₀) := by show A.frames.map (env :: ·) = _; rw [hl₀]; rfl
    have ez : ∀ b, FZ (A.deeper env) Sys' b → FZ A Sys b ∨ s.heap.get? b = none := by
      rintro b ⟨⟨l, e, h1, h2, h3⟩, _⟩
      rw [hA'] at h1; cases h1
      rcases List.mem_cons.mp h2 with rfl | h2
      · rw [eF] at h3; cases h3; exact .inr hLf
      · obtain ⟨_, L, _, g1, g2, _⟩ := hfs e h2
        rw [h3] at g1; cases g1
        exact .inl ⟨⟨l₀, e, hl₀, h2, h3⟩, g2⟩
    have hfr' : FrOk (A.deeper env) Sys' s₁.heap := by
      refine ⟨S.live, _, hA', fun e he => ?_⟩
      rcases List.mem_cons.mp he with q | he
      · rw [q]
        obtain ⟨o, es, ep, ho', d', _⟩ := x.toInCall.ns
        exact ⟨by rw [e3, O.kind]; decide, env.locals, o, eF, .inr (.inl rfl), ho', fun vs q => by rw [d'] at q; cases q⟩
      · obtain ⟨g1, L, o, g2, g3, g4, g5⟩ := hfs e he
        exact ⟨g1, L, o, g2, .inl g3, hk _ _ g4, g5⟩
    have Fr : Fx G d (fnSc (G.tbl.map (·.1)) G.xs (G.hots.contains f) G.hots fn dr) (A.deeper env) env lay Sys' s.heap ⟨vs.map some ++ List.replicate (fn.nv - fn.np) none, H, H⟩ s₁ := by
      refine ⟨⟨R.deeper (by rw [e3]; exact O.gen) (by rw [e3]; exact O.cor) e5 e4, EO, fun i p hp => ?_, S, ⟨_, eF, env, l₀, hA', eF⟩, fun e => hcold e⟩, hfr', .inr <| hhd.imp id fun ⟨y, o, vs, q1, q2, q3, q4⟩ => ⟨y, o, vs, q1, (fun q => q.elim q2 fun q => by rw [hNf y q] at q3; cases q3), hk _ _ q3, q4⟩⟩
      obtain ⟨y, hy, _⟩ := hlay i p hp
      obtain ⟨l, _⟩ := List.getElem?_eq_some_iff.mp hy
      show i < fn.vars.length
      omega
    have raised : ∀ e s', RzS G.mg (A.deeper env) Sys' s.heap s₁ (fun x _ => X x) e s' → wpAny (model G.prog G.w) (A.deeper env) (leaving env e) (fun _ s'' => E e s'') (fun e' s'' => E e' s'') s' := by
      rintro e s' ⟨c, C, x', ctx, st', h1, h2, rfl, hsh, h5, h6, h7, h8⟩
      have hsh' : ∃ h' tk, s' = { s with heap := h', toks := tk } := by
        obtain ⟨h1, t1, e⟩ := hsh
        obtain ⟨h2, t2, e'⟩ := x.toInCall.same
        exact ⟨h1, t1, by rw [e, e']⟩
      obtain ⟨h', tk, rfl⟩ := hsh'
      have fin : ∀ h'', HW (FZ (A.deeper env) Sys') s.heap h'' → FrOk (A.deeper env) Sys' h'' → Fly Sys' s.heap x' C ctx (· = rawInt env.locals) h'' → wpAny (model G.prog G.w) (A.deeper env) (setFlight (.ref x') none) (fun _ s'' => E (.ref x') s'') (fun e' s'' => E e' s'') { s with heap := h'', toks := tk } := fun h'' q1 q2 q3 =>
        set_fly (s := { s with heap := h'', toks := tk }) q2 q1 q3 fun h₃ r1 r2 r3 => hX _ _ ⟨c, C, x', ctx, h1, h2, rfl, Kp.ofW (r1.less ez), h7, .inr ((r3.mono fun v e => .inl e).before fun a n => ⟨n.1, fun q => n.2 (.inl q)⟩)⟩
      unfold leaving
      refine wpAny_bind ?_
      rcases h8 with f | f
      · exact note_fly0 (s := { s with heap := h', toks := tk }) h5 ⟨env, l₀, hA', eF⟩ eF h6 f fun h'' q1 q2 q3 => fin h'' q1 q2 q3
      · exact note_fly (s := { s with heap := h', toks := tk }) h5 ⟨env, l₀, hA', eF⟩ eF h6 (f.mono fun v q => q.imp id fun ⟨M, ⟨e1, l1, a1, a2⟩, a3⟩ => by
          rw [hA'] at a1; cases a1
          rw [eF] at a2; cases a2; exact a3) fun h'' q1 q2 q3 => fin h'' q1 q2 q3
    refine sndB hc fn.body (fnSc (G.tbl.map (·.1)) G.xs (G.hots.contains f) G.hots fn dr) dr.body ⟨rfl, rfl, rfl⟩ O.body Fr _ _ _ _ hW (fun fl f' st' s' q r F' p => ?_) raised
    have hsh : ∃ h' tk, s' = { s with heap := h', toks := tk } := by
      obtain ⟨h1, t1, e⟩ := p.sh
      obtain ⟨h2, t2, e'⟩ := x.toInCall.same
      exact ⟨h1, t1, by rw [e, e']⟩
    have kp : Kp (FZ A Sys) s s' := by
      obtain ⟨h', tk, e⟩ := hsh
      have := F'.sim.keep
      subst e
      exact Kp.ofW (this.less ez)
    have hBst : st'.B = H := p.B
    have g : Given G.hf H st'.H Sys Sys' s s' := ⟨F'.sim.objs, fun a q => .inl q, fun a q => p.stay a q, fun a q q' => F'.sim.own a q (by rw [hBst]; exact q'), F'.sim.dis⟩
    cases r with
    | next => exact hK .none .none st'.H Sys' s' q g .none kp
    | brk => exact q.elim
    | cont => exact q.elim
    | ret r => exact hK _ _ st'.H Sys' s' q g r kp

theorem call_all {G : PG} : ∀ d, CallSnd G d
  | 0 => by
    intro R T ho hlive hdis hfr hhd hcold hmg hrv Q X K E hW
    exact hW.elim
  | d + 1 => call_step (call_all d)

end Mine
end

section
set_option autoImplicit false
namespace Mine
open PySem

noncomputable def strOkB (u : Str) : Bool := decide (u.length ≤ sizeLine) && u.cps.all (· < 0x110000)

noncomputable def freeN (p : Program) (loose : List Str) (n : String) : Bool := !(startupNames.contains (Str.ofString n)) && !(loose.contains (Str.ofString n)) && !(((PyProof.Rows.recsOf p).map (·.name)).contains (Str.ofString n)) &&
  !(((PyProof.Rows.litsOf p).map (·.1)).contains (Str.ofString n)) && !(((PyProof.Rows.clssOf p loose).map (·.name)).contains (Str.ofString n))
noncomputable def freeB (p : Program) (loose : List Str) : Bool := bnames.all (freeN p loose)
theorem free_of {p : Program} {loose : List Str} {mean : ExcName → Option Value} {mg mb : Str → Option Value} {h : Heap} (T : PyProof.Rows.Top p loose mean mg mb h) {n : String} (this : freeN p loose n = true) : mg (Str.ofString n) = none := by
  simp only [freeN, Bool.and_eq_true, Bool.not_eq_true', List.contains_eq_mem, decide_eq_false_iff_not] at this
  obtain ⟨⟨⟨⟨h1, h2⟩, h3⟩, h4⟩, h5⟩ := this
  exact T.free _ h1 h2 h3 h4 h5
noncomputable def constB (p : Program) (gtab : List (String × V)) : Bool := gtab.all fun q => match q.2, PyProof.Rows.valOf p (Str.ofString q.1) with
  | .int i, some (.int j) => i == j
  | .str u, some (.str v) => u == v && strOkB u
  | _, _ => false
noncomputable def recAt (p : Program) (f : String) : Option DefRec := (PyProof.Rows.recsOf p).find? (·.name == Str.ofString f)
noncomputable def fnB (p : Program) (fns xs hots : List String) (q : String × Fn) : Bool := match recAt p q.1 with
  | some dr => chkFn fns xs (hots.contains q.1) hots q.2 dr
  | none => false

theorem boot_ok : ∀ n ∈ bnames, Str.ofString n ≠ "__name__" ∧ bootBuiltins (Str.ofString n) = some (bval n) := by
  intro n hn
  simp only [bnames, List.mem_cons, List.not_mem_nil, or_false] at hn
  rcases hn with rfl | rfl | rfl | rfl | rfl | rfl | rfl | rfl | rfl | rfl | rfl | rfl | rfl | rfl | rfl <;> exact ⟨by decide, by kernel_rfl⟩

theorem tt_of {prog : Program} {w : World} {p : Program} {loose : List Str} {mean : ExcName → Option Value} {mg mb : Str → Option Value} {h : Heap} {tbl : Tbl} {gtab : List (String × V)} {ctab : Clss} {xs hots : List String} (T : PyProof.Rows.Top p loose mean mg mb h)
    (htree : prog.given.tree = none) (himp : PyProof.Rows.importsNone p = true) (hfree : freeB p loose = true) (hconst : constB p gtab = true) (hfn : ∀ q ∈ tbl, fnB p (tbl.map (·.1)) xs hots q = true)
    (hex : ∀ c ∈ xs, XRow mg h xs c) (hexn : (allX.all fun c => xs.contains c || freeN p loose c) = true)
    : TT ⟨prog, w, mg, mb, tbl, gtab, ctab, xs, hots⟩ h := by
  refine ⟨⟨T.g, T.b, T.nolimit, T.seer himp, htree⟩, fun n hn => ⟨?_, ?_⟩, fun f fn hf => ?_, fun x v hx => ?_
    , hex, fun c hc => ((Bool.or_eq_true _ _).mp (List.all_eq_true.mp hexn c hc)).imp (fun q => List.contains_iff_mem.mp q) (free_of T)
    ⟩
  · exact free_of T (List.all_eq_true.mp hfree n hn)
  · exact (T.builtins _ (boot_ok n hn).1).trans (boot_ok n hn).2
  · have hm : (f, fn) ∈ tbl := by
      clear hfn
      induction tbl with
      | nil => simp at hf
      | cons q r ih =>
        obtain ⟨g, fg⟩ := q
        simp only [List.lookup_cons] at hf
        cases e : f == g with
        | true =>
          rw [e] at hf; simp only at hf; cases hf
          have : f = g := by simpa using e
          subst this; simp
        | false => rw [e] at hf; simp only at hf; exact List.mem_cons_of_mem _ (ih hf)
    have hq := hfn _ hm
    unfold fnB at hq
    simp only at hq
    split at hq
    · rename_i dr hdr
      have hin := List.mem_of_find?_eq_some hdr
      have hnm : dr.name = Str.ofString f := by simpa using List.find?_some hdr
      obtain ⟨a, o, pm, code, doc, h1, h2, h3, h4⟩ := T.fn dr hin
      exact ⟨dr, a, o, pm, code, doc, hnm ▸ h1, h2, h3, h4, hq⟩
    · cases hq
  · have hm : (x, v) ∈ gtab := by
      clear hconst
      induction gtab with
      | nil => simp at hx
      | cons q r ih =>
        obtain ⟨g, fg⟩ := q
        simp only [List.lookup_cons] at hx
        cases e : x == g with
        | true =>
          rw [e] at hx; simp only at hx; cases hx
          have : x = g := by simpa using e
          subst this; simp
        | false => rw [e] at hx; simp only at hx; exact List.mem_cons_of_mem _ (ih hx)
    have hq := List.all_eq_true.mp hconst _ hm
    simp only at hq
    split at hq
    · rename_i i j hv
      have e : i = j := by simpa using hq
      subst e
      obtain ⟨val, h1, h2⟩ := T.const _ _ hv
      have := h2 h
      cases this
      exact .inl ⟨_, _, rfl, h1⟩
    · rename_i u u' hv
      simp only [Bool.and_eq_true] at hq
      have e : u = u' := by simpa using hq.1
      subst e
      obtain ⟨val, h1, h2⟩ := T.const _ _ hv
      have := h2 h
      cases this
      refine .inr ⟨_, _, rfl, ?_, h1⟩
      have hs := hq.2
      unfold strOkB at hs
      simp only [Bool.and_eq_true, decide_eq_true_eq] at hs
      refine ⟨hs.1, fun c hc => ?_⟩
      have := hs.2
      rw [← Array.all_toList, List.all_eq_true] at this
      simpa using this c hc
    · cases hq

theorem ints_rv {N : Addr → Prop} {h : Heap} : ∀ {vs : List Value} {ns : List Int}, PyProof.Rows.IntsAre vs ns → RVs N h (ns.map V.int) vs
  | _, _, .nil => .nil
  | _, _, .cons n t r => .cons (.int n t) (ints_rv r)

/-- the law's call, from outside -/
theorem law_top {G : PG} {d : Nat} {s : Shared} {fa a : Addr} {vs : List Value} {ns : List Int} {n : Nat} {f : String} {K E : Value → Shared → Prop} (T : TT G s.heap) (hmg : G.mg (Str.ofString f) = some (.ref fa)) (hl : IsL s.heap a vs.toArray n) (hi : PyProof.Rows.IntsAre vs ns) (hz : ns.length ≤ 63)
    (hd : d ≤ 300) (hW : (G.cx d).call f [.lst (ns.map V.int)] (fun _ => none) (fun v => v = .bool true) (fun _ => False)) (hK : ∀ s', (∃ h' tk, s' = { s with heap := h', toks := tk } ∧ HK s.heap h') → K (.bool true) s') : wpAny (model G.prog G.w) callerA (call (.ref fa) [.ref a]) K E s := by
  have hlen : vs.length = ns.length := by
    have := (ints_rv (N := fun _ => False) (h := s.heap) hi).length
    simpa using this.symm
  refine call_all d (A := callerA) (H := fun _ => none) (Sys := fun _ => False) (vs := [.lst (ns.map V.int)]) (vals := [.ref a]) ⟨⟨?_, ?_⟩, [], rfl⟩ ⟨_, T, HK.refl _, fun _ q => q.elim (fun q => absurd rfl q) fun q => q.elim⟩ (fun _ _ e => by cases e) (fun _ q => q.elim) (fun _ q => q.elim) ⟨fun _ q => q.elim, [], rfl, fun _ q => by cases q⟩ (.inl rfl) (fun _ => rfl) hmg (.cons (.lst (fun q => ?_) hl ?_ (by simpa using ints_rv hi)) .nil) _ (fun _ => False) K E hW (fun v val H' Sys' s' q g r k => ?_) fun e s' q => q.no.elim
  · show 1 + claimMargin + d + 150 < recursionLimit
    have : claimMargin = 300 := rfl
    have : recursionLimit = 1000 := rfl
    omega
  · show 4 + 20 * d + 200 < cLine
    have : cLine = 9900 := rfl
    omega
  · rcases q with q | q
    · exact q rfl
    · exact q
  · have : sizeLine = 16777216 := rfl
    rw [List.size_toArray]; omega
  · have hfz := frz_ok (H := H') (B := fun _ => none) (Sys := fun _ => False) (Sys' := Sys') (h := s'.heap) g.ho g.sub g.stay fun _ _ _ hs => hs
    split at q
    · rename_i v' hv'
      subst q
      cases (hfz 8).1 _ _ _ hv' r
      obtain ⟨h', tk, e, k⟩ := k
      exact hK s' ⟨h', tk, e, fun b o e => (k b o e).1 fun q => q.2⟩
    · exact q.elim

end Mine
end

section
set_option autoImplicit false
namespace Mine
open PySem
noncomputable def chainX (c : String) : List Str := if c = "BookError" then [] else [Str.ofString "BookError"]
noncomputable def quietX (h : Heap) (name : Str) : Bool := match h.clsAt mainGlobals name with
  | some (_, _, cd) => qNames.all fun n => (h.nsMap cd.ns n).isNone
  | none => false
noncomputable def atX (h : Heap) (n : Str) : Value := (h.nsMap mainGlobals n).getD .none
noncomputable def xOk (h : Heap) (c : String) : Bool := h.ownExcOk (Str.ofString c) (chainX c) bmV "ValueError.__new__" && quietX h (Str.ofString c)
noncomputable def xTest (xs : List String) (h : Heap) : Bool := h.isNs mainGlobals && xOk h "BookError" && xs.all fun c => xOk h c && xs.all fun t => (atX h (Str.ofString c) :: ((chainX c).map (atX h) ++ bmV)).contains (atX h (Str.ofString t)) == subX c t
theorem xcls_of {h : Heap} {c : String} (x : xOk h c = true) : ∃ C N nm q bs hdct sn sub ab col dd k0 k1 k2 k3 k5, h.nsMap mainGlobals (Str.ofString c) = some (.ref C) ∧
    h.get? C = some (excClassObj nm q C N bs ((chainX c).map (atX h) ++ bmV) hdct sn sub ab col dd k0 k1 k2 k3 k5 "ValueError.__new__") ∧ h.Ns N (h.nsMap N) ∧ h.nsMap N "__init__" = none ∧ ∀ n ∈ qNames, h.nsMap N n = none := by
  obtain ⟨x, y⟩ := (Bool.and_eq_true _ _).mp x
  obtain ⟨C, N, nm, q, bs, hdct, sn, sub, ab, col, dd, k0, k1, k2, k3, k5, hb, hC, hN, hi⟩ := Heap.ownExc_of_ok x
  refine ⟨C, N, nm, q, bs, hdct, sn, sub, ab, col, dd, k0, k1, k2, k3, k5, hb, hC, hN, hi, fun n hn => ?_⟩
  unfold quietX at y
  cases hf : h.clsAt mainGlobals (Str.ofString c) with
  | none => rw [hf] at y; cases y
  | some z =>
    obtain ⟨C', o', cd'⟩ := z
    rw [hf] at y
    obtain ⟨hn', ho', hd'⟩ := Heap.clsAt_spec hf
    rw [hb] at hn'
    obtain rfl : C = C' := by injection hn' with q1; injection q1
    rw [hC] at ho'
    obtain rfl := Option.some.inj ho'
    obtain rfl : _ = cd' := by injection hd'
    exact Option.isNone_iff_eq_none.mp (List.all_eq_true.mp y n hn)
theorem xrow_of {xs : List String} {h : Heap} (x : xTest xs h = true) : h.Ns mainGlobals (h.nsMap mainGlobals) ∧ ∀ c ∈ xs, XRow (h.nsMap mainGlobals) h xs c := by
  obtain ⟨x, x3⟩ := (Bool.and_eq_true _ _).mp x
  obtain ⟨x1, x2⟩ := (Bool.and_eq_true _ _).mp x
  refine ⟨.of_isNs x1, fun c hc => ?_⟩
  obtain ⟨y1, y2⟩ := (Bool.and_eq_true _ _).mp (List.all_eq_true.mp x3 c hc)
  obtain ⟨D, N', nm', q', bs', hdct', sn', sub', ab', col', dd', k0', k1', k2', k3', k5', d1, d2, d3, d4, d5⟩ := xcls_of x2
  obtain ⟨C, N, nm, q, bs, hdct, sn, sub, ab, col, dd, k0, k1, k2, k3, k5, c1, c2, c3, c4, c5⟩ := xcls_of y1
  have ha : ∀ {n : String} {A : Addr}, h.nsMap mainGlobals (Str.ofString n) = some (.ref A) → atX h (Str.ofString n) = .ref A := fun e => by unfold atX; rw [e]; rfl
  have tl : OwnTail h bmV ((chainX c).map (atX h) ++ bmV) ∧ QTail h ((chainX c).map (atX h) ++ bmV) := by
    unfold chainX
    split
    · exact ⟨.base, .base⟩
    · rw [List.map_cons, ha d1]
      exact ⟨.own d2 d3 d4 .base, .own d2 d3 d5 .base⟩
  refine ⟨C, _, N, nm, q, bs, hdct, sn, sub, ab, col, dd, k0, k1, k2, k3, k5, _, c1, c2, c3, c4, tl.1, fun t ht E e => ?_, .own c2 c3 c5 tl.2⟩
  have := List.all_eq_true.mp y2 t ht
  rw [ha c1, ha e] at this
  exact eq_of_beq this
theorem xrow_mg {xs : List String} {h : Heap} {m mg : Str → Option Value} (x : h.Ns mainGlobals m ∧ ∀ c ∈ xs, XRow m h xs c) (g : h.Ns mainGlobals mg) : ∀ c ∈ xs, XRow mg h xs c := by
  obtain ⟨⟨o1, es1, ep1, g1, d1, _, f1⟩, x⟩ := x
  obtain ⟨o2, es2, ep2, g2, d2, _, f2⟩ := g
  rw [g1] at g2; cases g2
  rw [d1] at d2; cases d2
  have : m = mg := by funext z; rw [← f1, ← f2]
  rw [← this]; exact x
end Mine
end

section
set_option maxRecDepth 100000
set_option maxHeartbeats 8000000
open PySem PySem.W PyProof.Rows Mine Mine.L08
noncomputable def Mine.xsX : List String := ["BookError", "NoBook"]
noncomputable def Mine.hotX : List String := ["need_book", "is_rule", "is_symbol", "is_whole", "is_text", "read", "rows_of", "symbol_at"]
noncomputable def Mine.hookX : Hook := ⟨Bool, fun s => xTest xsX s.heap, fun _ => true, fun _ h => ∃ m, h.Ns mainGlobals m ∧ ∀ c ∈ xsX, XRow m h xsX c, fun _ s e => ⟨_, xrow_of e⟩, fun _ _ _ x k => let ⟨m, a, b⟩ := x; ⟨m, a.keeps k, fun c hc => (b c hc).keeps k⟩⟩
theorem PySem.Challenge.cw_uf020039_08_holds : PySem.Challenge.rw_uf020039_08.Holds := by
  w_on; o_law; o_head Mine.hookX; (case hw => w_witness2)
  intro w s₀ s₁ mg mb G Y fa o pm cd doc dV kV ho hd hcd hD hmg hg args vals as hpre hlay hrd hwl hlo
  refine Ground.open G ?_
  intro T B D TE TW
  have hmg' : mg (Str.ofString "law") = some (.ref fa) := hmg
  have hX : ∃ m, s₁.heap.Ns mainGlobals m ∧ ∀ c ∈ xsX, XRow m s₁.heap xsX c := Y
  clear hD hcd hd ho hmg Y G B D TE TW
  wrow_args hpre hlay hrd hwl hlo
  rename_i ns hs hlay0 hL0 hr1 hl2 as2 as3 a vs as4 hL ra w1 r0 hI hr0 hc1 hc2
  have hlist : IsL s₁.heap a vs.toArray 0 := by
    cases w1 with
    | list h1 h2 =>
      obtain ⟨o, ho, _, n, hd⟩ := hL
      rw [h1] at ho; cases ho
      have e : vs.toArray = _ := (Data.seq.inj hd).1.symm
      rw [e]; exact h1
  obtain ⟨m, hX⟩ := hX
  have TT1 : TT ⟨PySem.Challenge.rw_uf020039_08.row.prog, w, mg, mb, tbl, gtab, [], xsX, hotX⟩ s₁.heap := tt_of T rfl (by decide +kernel) (by decide +kernel) (by decide +kernel) (by decide +kernel)
    (xrow_mg hX T.g) (by decide +kernel)
  refine law_top (G := ⟨PySem.Challenge.rw_uf020039_08.row.prog, w, mg, mb, tbl, gtab, [], xsX, hotX⟩) (d := 30) TT1 hmg' hlist hI (by omega) (by decide) (Mine.L08.main ns (by omega)) fun s' k => ?_
  obtain ⟨h', tk, rfl, hk⟩ := k
  refine ⟨.inl ⟨.bool true, .bool true, [], rfl, ?_, .bool true, ?_, ?_⟩, ?_, rfl, ?_⟩
  · intro cls; rfl
  · wrow_post
  · intro _; exact ⟨List.nodup_nil, by simp⟩
  · exact .of_keep hk
  · exact .of_eq hg
end

import PyProof.Rows.All
import PyProof.P3Statements
import PySem.Sem
import PySem.Builtin.Str.Common
import PyProof.StrLaws
import PyProof.Defs
import PyProof.Rows.Top
import PyProof.CompMap
import PyProof.Cells
import PyProof.TupleIter
import PyProof.ListOps
import PyProof.TupleOps
import PyProof.Rows.Tup
import PyProof.Rows.PlainObj
import PyProof.Rows.StrRules
import PyProof.Rows.RuleB_floordiv
import PyProof.Rows.RuleB_mod
import PyProof.Rows.RuleB_mul
import PyProof.Rows.RuleB_sub
import PyProof.Rows.IntRules
import PyProof.Rows.RuleC_int
import PyProof.Rows.RuleU_int
import PyProof.Rows.StrTemp
import PyProof.PureInt
import PyProof.Truth
import PyProof.ListTruth
import PyProof.CallRoads
import PyProof.CallType
import PyProof.EqLayable
import PyProof.P3In
import PyProof.Rows.Nodes
import PyProof.NoPylong
import PyProof.StrBlock2
import PyProof.ListMulRoad
import PyProof.AutoListH
import PyProof.ListIndexNeg
import PyProof.SliceMore
import PyProof.SliceStr2
import PyProof.Rows.ListMul
import PyProof.Rows.StrPins
import PyProof.IsInstanceH
import PyProof.IsiSeqPairs
import PyProof.IsiPairs
import PyProof.Rules3
import PyProof.Rules2
import PyProof.DictRoadsH
import PyProof.DictKinds
import PyProof.P3Eq
import PyProof.EqAt
import PyProof.SeqRoads
import PyProof.FactsAll.list_1
import PyProof.Rows.Chain
import PyProof.NeData
import PyProof.IsiNone
import PyProof.DefCall
import PyProof.Walks
import PyProof.WalksMore
import PyProof.StrWalks
import PyProof.RangeFor
import PyProof.Rows.Range3
import PyProof.ListNew
import PyProof.ReprLoop
import PyProof.FactsAll.list
import PyProof.FactsAll.list_2
import PyProof.Draws
import PyProof.EnumMake
import PyProof.ZipIter
import PyProof.Conv_int
import PyProof.Conv_int_bool
import PyProof.CallStr
import PyProof.TupleOfSeq
import KE.IntTextLaws
import PyProof.DictIter
import PyProof.DictWalks
import PyProof.DictDisplay
import PyProof.ListCopy
import PyProof.ListStr
import PyProof.ListRange
import PyProof.Rows.StrJoin2
import PyProof.SliceSyntax
import PyProof.StrBlockL
import PyProof.Rows.SumAny
import PyProof.WalkInts
import PyProof.SeqI3
import PyProof.Rows.CallKwBuiltin
import PyProof.MinMaxWalk
import PyProof.CompFree
import PyProof.Comp
import PyProof.WalksPairs
import PyProof.Rows.TupIter
import PyProof.Rows.TopObj
import PyProof.Rows.AttrNodeAny
import PyProof.Raises
import PyProof.RulesAssignMore
import PyProof.Rows.TupAssign
import PyProof.ForAny
import Wide.All
import Open.Line
import PySem.Challenge.RW_uf020039_06
set_option Elab.async false
set_option linter.all false
section
set_option autoImplicit false
namespace Mine
open PySem

inductive V where
  | none
  | bool (b : Bool)
  | int (i : Int)
  | str (s : Str)
  | tup (vs : List V)
  | lst (vs : List V)
  | ref (a : Nat)
  | inst (c : Nat) (ns : List String) (vs : List V)
  | iref (c : Nat) (ns : List String) (a : Nat)

/-- what a key is made of -/
inductive At where
  | i (n : Int)
  | s (x : Str)
deriving DecidableEq
noncomputable abbrev HFn := List At → Int
inductive AO where
  | list (vs : List V)
  | dict (kvs : List (List At × V))
  | inst (c : Nat) (ns : List String) (vs : List V)

noncomputable abbrev AH := Nat → Option AO
noncomputable def AH.upd (H : AH) (a : Nat) (o : AO) : AH := fun b => if b = a then some o else H b

structure St where
  ρ : List (Option V)
  H : AH
  B : AH

set_option genSizeOf false
set_option genInjectivity false
inductive Bop where
  | add | sub | mul | fdiv | mod | pow
inductive Cop where
  | eq | ne | lt | le | gt | ge | is | isnot | isin | notin
inductive Ty where
  | int | bool | str | tuple | list | own (c : String) | ValueError
inductive Tg where
  | var (i : Nat)
  | tup (is : List Nat)

mutual
inductive E where
  | none
  | bool (b : Bool)
  | int (i : Int)
  | str (s : Str)
  | var (i : Nat)
  | glob (x : String)
  | bin (op : Bop) (a b : E)
  | neg (a : E)
  | not (a : E)
  | and (a b : E)
  | or (a b : E)
  | ite (t a b : E)
  | list (es : Es)
  | tup (es : Es)
  | cmp (a : E) (c : Ch)
  | sub (a i : E)
  | slice (a lo hi : E)
  | call (f : String) (args : Es)
  | isinst (a : E) (t : Ty)
  | len (a : E)
  | sum (a : E)
  | max2 (a b : E)
  | min2 (a b : E)
  | maxl (a : E)
  | maxd (a d : E)
  | strOf (a : E)
  | intOf (a : E)
  | tupOf (a : E)
  | listOf (it : It)
  | join (s a : E)
  | get (d k v : E)
  | dict0
  | attr (a : E) (n : String)
  | new (c : String) (args : Es)
  | comp (elt : E) (t : Tg) (it : It)
  | compIf (elt : E) (t : Tg) (it : It) (c : E)
inductive Es where
  | nil
  | cons (e : E) (es : Es)
inductive Ch where
  | one (op : Cop) (e : E)
  | more (op : Cop) (e : E) (c : Ch)
inductive It where
  | seq (e : E)
  | rev (e : E)
  | range1 (n : E)
  | range2 (a b : E)
  | range3 (a b c : E)
  | enum (e : E)
  | zip (a b : E)
  | keys (e : E)
end

mutual
inductive A where
  | pure (e : E)
  | thaw (e : E)
  | list (as : As)
  | dict
  | new (c : String) (args : Es)
inductive As where
  | nil
  | cons (a : A) (as : As)
end

mutual
inductive S where
  | expr (e : E)
  | assign (t : Tg) (e : E)
  | own (i : Nat) (a : A)
  | append (e : E) (a : A)
  | pop (t : Tg) (e : E)
  | setitem (e k v : E)
  | setkey (e k v : E)
  | setattr (e : E) (n : String) (v : E)
  | ite (t : E) (a b : Bl)
  | while (t : E) (b : Bl)
  | for (t : Tg) (it : It) (b : Bl)
  | ret (e : E)
  | raise (c : String) (msg : E)
  | tryEx (b : Bl) (c : String) (x : Option Nat) (h : Bl)
inductive Bl where
  | nil
  | cons (s : S) (b : Bl)
end

structure Fn where
  np : Nat
  vars : List String
  nv : Nat
  body : Bl

set_option genSizeOf true
set_option genInjectivity true
/-! values -/
noncomputable def signsOf (s : Str) : List V := s.cps.toList.map fun c => V.str ⟨#[c]⟩
noncomputable def seqL (H : AH) : V → Option (List V)
  | .lst vs => some vs
  | .ref a => match H a with
    | some (.list vs) => some vs
    | _ => Option.none
  | _ => Option.none
noncomputable def atV : At → V
  | .i n => .int n
  | .s x => .str x
noncomputable def keyV (ks : List At) : V := .tup (ks.map atV)
noncomputable def itemsV (H : AH) : V → Option (List V)
  | .lst vs => some vs
  | .tup vs => some vs
  | .str s => some (signsOf s)
  | .ref a => match H a with
    | some (.list vs) => some vs
    | _ => Option.none
  | _ => Option.none
/-- the tracked thing that a walk over a value reads -/
noncomputable def depsV : V → List Nat
  | .ref a => [a]
  | _ => []
noncomputable def sizeV (H : AH) : V → Option Nat
  | .lst vs => some vs.length
  | .tup vs => some vs.length
  | .str s => some s.length
  | .ref a => match H a with
    | some (.list vs) => some vs.length
    | _ => Option.none
  | _ => Option.none
noncomputable def truthV (_H : AH) : V → Option Bool
  | .bool b => some b
  | _ => Option.none
noncomputable def resV (H : AH) : V → V
  | .ref a => match H a with
    | some (.list vs) => .lst vs
    | _ => .ref a
  | v => v

mutual
noncomputable def toD : V → Option PyData
  | .none => some .none
  | .bool b => some (.bool b)
  | .int i => some (.int i)
  | .str s => some (.str s)
  | .tup vs => (toDs vs).map .tuple
  | .lst vs => (toDs vs).map .list
  | .ref _ => Option.none
  | .inst _ _ _ => Option.none
  | .iref _ _ _ => Option.none
noncomputable def toDs : List V → Option (List PyData)
  | [] => some []
  | v :: vs => match toD v, toDs vs with
    | some d, some ds => some (d :: ds)
    | _, _ => Option.none
end

noncomputable def eqV (H : AH) (a b : V) (Q : Bool → Prop) : Prop :=
  match toD (resV H a), toD (resV H b) with
  | some x, some y => x.depth ≤ 64 ∧ Q (PyData.eqv x y)
  | _, _ => False

/-- a text holds another one -/
noncomputable def hasSub (s t : Str) : Bool := !(Builtin.Str.occurrences s t 0 s.length 1).isEmpty

noncomputable def atOf : V → Option At
  | .int n => some (.i n)
  | .str x => some (.s x)
  | _ => Option.none
noncomputable def atsOf : List V → Option (List At)
  | [] => some []
  | v :: vs => (match atOf v, atsOf vs with
    | some a, some as => some (a :: as)
    | _, _ => Option.none)
/-- a pair, as a key -/
noncomputable def keyP : V → (List At → Prop) → Prop
  | .tup vs, P => (match atsOf vs with
    | some ks => P ks
    | Option.none => False)
  | _, _ => False
noncomputable def dlook (k : List At) : List (List At × V) → Option V
  | [] => Option.none
  | (a, v) :: r => if a = k then some v else dlook k r
noncomputable def dput (k : List At) (v : V) : List (List At × V) → List (List At × V)
  | [] => [(k, v)]
  | (a, w) :: r => if a = k then (a, v) :: r else (a, w) :: dput k v r
noncomputable def dictP (H : AH) (u : V) (P : Nat → List (List At × V) → Prop) : Prop := match u with
  | .ref a => (match H a with
    | some (.dict kvs) => P a kvs
    | _ => False)
  | _ => False

/-- whole numbers, as arguments of range -/
noncomputable def intP : V → (Int → Prop) → Prop
  | .int i, P => P i
  | _, _ => False
noncomputable def smallI (i : Int) : Prop := -(2 ^ 62) ≤ i ∧ i < 2 ^ 62
noncomputable def strP : V → (Str → Prop) → Prop
  | .str s, P => P s
  | _, _ => False
noncomputable def noneP : V → Prop → Prop
  | .none, P => P
  | _, _ => False
noncomputable def isNone : V → Bool
  | .none => true
  | _ => false
noncomputable def seqP (H : AH) (v : V) (P : List V → Prop) : Prop := match seqL H v with
  | some x => P x
  | Option.none => False
/-- a list or a tuple -/
noncomputable def rowL (H : AH) : V → Option (List V)
  | .lst vs => some vs
  | .tup vs => some vs
  | .ref a => match H a with
    | some (.list vs) => some vs
    | _ => Option.none
  | _ => Option.none
noncomputable def rowP (H : AH) (v : V) (P : List V → Prop) : Prop := match rowL H v with
  | some x => P x
  | Option.none => False
noncomputable def inV (H : AH) (x c : V) (Q : Bool → Prop) : Prop := match c with
  | .str s => strP x fun t => Q (hasSub s t)
  | c => dictP H c fun _ kvs => keyP x fun ks => Q (dlook ks kvs).isSome
noncomputable def cmpV (H : AH) (op : Cop) (a b : V) (Q : Bool → Prop) : Prop := match op with
  | .eq => eqV H a b Q
  | .ne => eqV H a b fun r => Q (!r)
  | .lt => intP a fun i => intP b fun j => Q (decide (i < j))
  | .le => intP a fun i => intP b fun j => Q (decide (i ≤ j))
  | .gt => intP a fun i => intP b fun j => Q (decide (i > j))
  | .ge => intP a fun i => intP b fun j => Q (decide (i ≥ j))
  | .is => noneP b (Q (isNone a))
  | .isnot => noneP b (Q (!isNone a))
  | .isin => inV H a b Q
  | .notin => inV H a b fun r => Q (!r)

noncomputable def repL {α : Type} (n : Nat) (xs : List α) : List α := (List.replicate n xs).flatten

noncomputable def addV (H : AH) (a b : V) (Q : V → Prop) : Prop := match a with
  | .int i => intP b fun j => Q (.int (i + j))
  | .str s => strP b fun t => s.length + t.length ≤ sizeLine ∧ Q (.str (s ++ t))
  | a => seqP H a fun x => seqP H b fun y => x.length + y.length ≤ sizeLine ∧ Q (.lst (x ++ y))
noncomputable def mulV (a b : V) (Q : V → Prop) : Prop := match a with
  | .int i => intP b fun j => (i.natAbs < 2 ^ 62 ∨ j.natAbs < 2 ^ 62) ∧ Q (.int (i * j))
  | .lst vs => intP b fun n => -(2 ^ 62) ≤ n ∧ n < 2 ^ 62 ∧ vs.length * n.toNat ≤ sizeLine ∧ Q (.lst (repL n.toNat vs))
  | .str s => intP b fun n => 0 ≤ n ∧ n < 2 ^ 30 ∧ s.length * n.toNat ≤ sizeLine ∧ Q (.str ⟨(repL n.toNat s.cps.toList).toArray⟩)
  | _ => False
noncomputable def binV (H : AH) (op : Bop) (a b : V) (Q : V → Prop) : Prop := match op with
  | .add => addV H a b Q
  | .sub => intP a fun i => intP b fun j => Q (.int (i - j))
  | .mul => mulV a b Q
  | .fdiv => intP a fun i => intP b fun j => j ≠ 0 ∧ Q (.int (i.fdiv j))
  | .mod => intP a fun i => intP b fun j => j ≠ 0 ∧ Q (.int (i.fmod j))
  | .pow => False

/-- a place in a row of n, from behind if it is negative -/
noncomputable def idx (n : Nat) (i : Int) : Option Nat :=
  if 0 ≤ i then (if i < n then some i.toNat else Option.none) else (if 0 ≤ i + n then some (i + n).toNat else Option.none)

noncomputable def subV (H : AH) : V → V → (V → Prop) → Prop
  | .ref a, k, Q => (match H a with
    | some (.dict kvs) => keyP k fun ks => (match dlook ks kvs with
      | some v => Q v
      | Option.none => False)
    | some (.list vs) => (match k with
      | .int i => (match idx vs.length i with
        | some n => (match vs[n]? with
          | some v => Q v
          | Option.none => False)
        | Option.none => False)
      | _ => False)
    | _ => False)
  | .str s, .int i, Q => (match idx s.length i with
    | some n => (match s.cps.toList[n]? with
      | some c => Q (.str ⟨#[c]⟩)
      | Option.none => False)
    | Option.none => False)
  | .lst vs, .int i, Q => (match idx vs.length i with
    | some n => (match vs[n]? with
      | some v => Q v
      | Option.none => False)
    | Option.none => False)
  | .tup vs, .int i, Q => (match idx vs.length i with
    | some n => (match vs[n]? with
      | some v => Q v
      | Option.none => False)
    | Option.none => False)
  | _, _, _ => False

/-- where a cut begins or ends -/
noncomputable def clip (n : Nat) (i : Int) : Nat := (max 0 (min (if i < 0 then i + n else i) n)).toNat
noncomputable def bnd (n d : Nat) : V → Option Nat
  | .none => some d
  | .int i => some (clip n i)
  | _ => Option.none
noncomputable def cutL {α : Type} (xs : List α) (lo hi : Nat) : List α := (xs.drop lo).take (hi - lo)

noncomputable def sliceV (H : AH) (a lo hi : V) (Q : V → Prop) : Prop :=
  match a with
  | .str s => (match bnd s.length 0 lo, bnd s.length s.length hi with
    | some l, some h => Q (.str ⟨(cutL s.cps.toList l h).toArray⟩)
    | _, _ => False)
  | v => (match seqL H v with
    | some vs => (match bnd vs.length 0 lo, bnd vs.length vs.length hi with
      | some l, some h => Q (.lst (cutL vs l h))
      | _, _ => False)
    | Option.none => False)

noncomputable def isV : Ty → V → Option Bool
  | _, .ref _ => Option.none
  | _, .inst _ _ _ => Option.none
  | _, .iref _ _ _ => Option.none
  | .int, .int _ => some true
  | .int, .bool _ => some true
  | .int, _ => some false
  | .bool, .bool _ => some true
  | .bool, _ => some false
  | .str, .str _ => some true
  | .str, _ => some false
  | .tuple, .tup _ => some true
  | .tuple, _ => some false
  | .list, .lst _ => some true
  | .list, _ => some false
  | _, _ => Option.none
noncomputable def isT (H : AH) (t : Ty) (v : V) : Option Bool := match v with
  | .ref a => (match H a with
    | some (.list _) => isV t (.lst [])
    | _ => Option.none)
  | v => isV t v

noncomputable def intsOf : List V → Option (List Int)
  | [] => some []
  | .int i :: r => (intsOf r).map (i :: ·)
  | _ => Option.none
noncomputable def strsOf : List V → Option (List Str)
  | [] => some []
  | .str s :: r => (strsOf r).map (s :: ·)
  | _ => Option.none
noncomputable def lenAll : List Str → Nat
  | [] => 0
  | s :: r => s.length + lenAll r
noncomputable def maxI : Int → List Int → Int
  | m, [] => m
  | m, x :: r => maxI (if x > m then x else m) r

noncomputable def digitsVal (l : List Nat) : Nat := l.foldl (fun n c => n * 10 + (c - 48)) 0
noncomputable def allDigits (l : List Nat) : Bool := l.all fun c => 48 ≤ c && c ≤ 57

/-- int(..) of a truth value or of figures -/
noncomputable def intOfV : V → (V → Prop) → Prop
  | .bool b, Q => Q (.int (if b then 1 else 0))
  | .str s, Q => allDigits s.cps.toList = true ∧ 0 < s.length ∧ s.length ≤ 100 ∧ Q (.int (digitsVal s.cps.toList))
  | _, _ => False
noncomputable def upL (a b : Int) : List V := (List.range (b - a).toNat).map fun (k : Nat) => .int (a + k)
noncomputable def downL (a b : Int) : List V := (List.range (a - b).toNat).map fun (k : Nat) => .int (a - k)

noncomputable def enumL (n : Nat) : List V → List V
  | [] => []
  | v :: vs => .tup [.int n, v] :: enumL (n + 1) vs
noncomputable def zipL : List V → List V → List V
  | x :: xs, y :: ys => .tup [x, y] :: zipL xs ys
  | _, _ => []

noncomputable def putV (i : Nat) (v : V) (ρ : List (Option V)) : Option (List (Option V)) := if i < ρ.length then some (ρ.set i (some v)) else Option.none
noncomputable def setAll : List Nat → List V → List (Option V) → Option (List (Option V))
  | [], [], ρ => some ρ
  | i :: is, v :: vs, ρ => match putV i v ρ with
    | some ρ' => setAll is vs ρ'
    | Option.none => Option.none
  | _, _, _ => Option.none
noncomputable def bindT : Tg → V → List (Option V) → Option (List (Option V))
  | .var i, v, ρ => putV i v ρ
  | .tup is, .tup vs, ρ => setAll is vs ρ
  | _, _, _ => Option.none

noncomputable def rng1 : List V → (Int → Prop) → Prop
  | [u], P => intP u fun i => smallI i ∧ P i
  | _, _ => False
noncomputable def rng2 : List V → (Int → Int → Prop) → Prop
  | [u, v], P => intP u fun i => intP v fun j => smallI i ∧ smallI j ∧ P i j
  | _, _ => False
noncomputable def rng3 : List V → (Int → Int → Int → Prop) → Prop
  | [u, v, w], P => intP u fun i => intP v fun j => intP w fun k => smallI i ∧ smallI j ∧ P i j k
  | _, _ => False

noncomputable def intsP (vs : List V) (P : List Int → Prop) : Prop := match intsOf vs with
  | some is => P is
  | Option.none => False
noncomputable def sum1 (H : AH) : List V → (Int → Prop) → Prop
  | [u], P => seqP H u fun vs => intsP vs fun is => P is.sum
  | _, _ => False
noncomputable def max1 (H : AH) : List V → (Int → Prop) → Prop
  | [u], P => seqP H u fun vs => intsP vs fun is => is ≠ [] ∧ P (maxI (is.headD 0) is.tail)
  | _, _ => False
noncomputable def maxD (H : AH) (u v : V) (Q : V → Prop) : Prop := seqP H u fun vs => intsP vs fun is => Q (match is with
  | [] => v
  | i :: r => .int (maxI i r))
noncomputable def int2 : List V → (Int → Int → Prop) → Prop
  | [u, v], P => intP u fun i => intP v fun j => P i j
  | _, _ => False

noncomputable def setV (H B : AH) (u kk : V) (P : Nat → List V → Nat → Prop) : Prop := match u with
  | .ref ad => intP kk fun i => B ad = Option.none ∧ 0 ≤ i ∧ ∃ vs, H ad = some (.list vs) ∧ i < vs.length ∧ P ad vs i.toNat
  | _ => False

noncomputable abbrev CallSem := String → List V → AH → (V → Prop) → (String → Prop) → Prop
inductive Ini where
  | arg (i : Nat)
  | val (v : V)
structure Cx where
  call : CallSem
  glob : String → Option V
  cls : String → Option (Nat × Nat × List (String × Ini))
  has : Nat → List String → Bool

noncomputable def iniV (args : List V) : Ini → V
  | .arg i => (args[i]?).getD .none
  | .val v => v
noncomputable def attrL (n : String) : List String → List V → Option V
  | m :: ns, v :: vs => if m = n then some v else attrL n ns vs
  | _, _ => Option.none
noncomputable def setAttrL (n : String) (w : V) : List String → List V → Option (List V)
  | m :: ns, v :: vs => if m = n then some (w :: vs) else (setAttrL n w ns vs).map (v :: ·)
  | _, _ => Option.none

noncomputable def compL (f : V → (Option V → Prop) → Prop) : List V → (List V → Prop) → Prop
  | [], Q => Q []
  | x :: xs, Q => f x fun r => compL f xs fun ys => Q (match r with
    | some y => y :: ys
    | Option.none => ys)

mutual
noncomputable def WE (C : Cx) : E → St → (V → Prop) → (String → Prop) → Prop
  | .none, _, Q, _ => Q .none
  | .bool b, _, Q, _ => Q (.bool b)
  | .int i, _, Q, _ => Q (.int i)
  | .str s, _, Q, _ => Q (.str s)
  | .var i, st, Q, _ => (match st.ρ[i]? with
    | some (some v) => Q v
    | _ => False)
  | .glob x, _, Q, _ => (match C.glob x with
    | some v => Q v
    | Option.none => False)
  | .bin op a b, st, Q, X => WE C a st (fun u => WE C b st (fun v => binV st.H op u v Q) X) X
  | .neg a, st, Q, X => WE C a st (fun u => match u with
    | .int i => Q (.int (-i))
    | _ => False) X
  | .not a, st, Q, X => WE C a st (fun u => match truthV st.H u with
    | some b => Q (.bool (!b))
    | Option.none => False) X
  | .and a b, st, Q, X => WE C a st (fun u => match truthV st.H u with
    | some true => WE C b st Q X
    | some false => Q u
    | Option.none => False) X
  | .or a b, st, Q, X => WE C a st (fun u => match truthV st.H u with
    | some true => Q u
    | some false => WE C b st Q X
    | Option.none => False) X
  | .ite t a b, st, Q, X => WE C t st (fun u => match truthV st.H u with
    | some true => WE C a st Q X
    | some false => WE C b st Q X
    | Option.none => False) X
  | .list es, st, Q, X => WEs C es st (fun vs => vs.length ≤ sizeLine ∧ Q (.lst vs)) X
  | .tup es, st, Q, X => WEs C es st (fun vs => vs.length ≤ sizeLine ∧ Q (.tup vs)) X
  | .cmp a c, st, Q, X => WE C a st (fun u => WCh C c st u (fun b => Q (.bool b)) X) X
  | .sub a i, st, Q, X => WE C a st (fun u => WE C i st (fun k => subV st.H u k Q) X) X
  | .slice a lo hi, st, Q, X => WE C a st (fun u => WE C lo st (fun l => WE C hi st (fun h => sliceV st.H u l h Q) X) X) X
  | .call f args, st, Q, X => WEs C args st (fun vs => C.call f vs st.H Q X) X
  | .isinst a t, st, Q, X => WE C a st (fun u => match isT st.H t u with
    | some b => Q (.bool b)
    | Option.none => False) X
  | .len a, st, Q, X => WE C a st (fun u => match sizeV st.H u with
    | some n => Q (.int n)
    | Option.none => False) X
  | .sum a, st, Q, X => WE C a st (fun u => sum1 st.H [u] fun n => Q (.int n)) X
  | .max2 a b, st, Q, X => WE C a st (fun u => WE C b st (fun v => int2 [u, v] fun i j => Q (.int (if j > i then j else i))) X) X
  | .min2 a b, st, Q, X => WE C a st (fun u => WE C b st (fun v => int2 [u, v] fun i j => Q (.int (if j < i then j else i))) X) X
  | .maxl a, st, Q, X => WE C a st (fun u => max1 st.H [u] fun n => Q (.int n)) X
  | .maxd a d, st, Q, X => WE C a st (fun u => WE C d st (fun v => maxD st.H u v Q) X) X
  | .strOf a, st, Q, X => WE C a st (fun u => intP u fun i => i.natAbs < 2 ^ 62 ∧ Q (.str (Str.ofString (toString i)))) X
  | .intOf a, st, Q, X => WE C a st (fun u => intOfV u Q) X
  | .tupOf a, st, Q, X => WE C a st (fun u => seqP st.H u fun vs => Q (.tup vs)) X
  | .listOf it, st, Q, X => WI C it st (fun vs _ => vs.length ≤ sizeLine ∧ Q (.lst vs)) X
  | .join s a, st, Q, X => WE C s st (fun u => WE C a st (fun v => match u, (seqL st.H v).bind strsOf with
    | .str s, some ss => lenAll ss + s.length * ss.length ≤ sizeLine ∧ Q (.str (Str.join s ss))
    | _, _ => False) X) X
  | .get d k v, st, Q, X => WE C d st (fun u => dictP st.H u fun _ kvs => WE C k st (fun kk => WE C v st (fun w => keyP kk fun ks => Q ((dlook ks kvs).getD w)) X) X) X
  | .dict0, _, _, _ => False
  | .attr a n, st, Q, X => WE C a st (fun u => match u with
    | .inst c ns vs => C.has c ns = true ∧ (match attrL n ns vs with
      | some v => Q v
      | Option.none => False)
    | .iref c ns ad => (match st.H ad with
      | some (.inst c' ns' vs) => C.has c ns = true ∧ c' = c ∧ ns' = ns ∧ (match attrL n ns vs with
        | some v => Q v
        | Option.none => False)
      | _ => False)
    | _ => False) X
  | .new c args, st, Q, X => (match C.cls c with
    | some (k, n, fs) => WEs C args st (fun vs => vs.length = n ∧ Q (.inst k (fs.map (·.1)) (fs.map fun f => iniV vs f.2))) X
    | Option.none => False)
  | .comp elt t it, st, Q, X => WI C it st (fun xs _ => xs.length ≤ sizeLine ∧
      compL (fun x k => match bindT t x st.ρ with
        | some ρ' => WE C elt { st with ρ := ρ' } (fun y => k (some y)) (fun _ => False)
        | Option.none => False) xs (fun ys => Q (.lst ys))) X
  | .compIf elt t it c, st, Q, X => WI C it st (fun xs _ => xs.length ≤ sizeLine ∧
      compL (fun x k => match bindT t x st.ρ with
        | some ρ' => WE C c { st with ρ := ρ' } (fun u => match truthV st.H u with
          | some true => WE C elt { st with ρ := ρ' } (fun y => k (some y)) (fun _ => False)
          | some false => k Option.none
          | Option.none => False) (fun _ => False)
        | Option.none => False) xs (fun ys => Q (.lst ys))) X
noncomputable def WEs (C : Cx) : Es → St → (List V → Prop) → (String → Prop) → Prop
  | .nil, _, Q, _ => Q []
  | .cons e es, st, Q, X => WE C e st (fun v => WEs C es st (fun vs => Q (v :: vs)) X) X
noncomputable def WCh (C : Cx) : Ch → St → V → (Bool → Prop) → (String → Prop) → Prop
  | .one op e, st, u, Q, X => WE C e st (fun v => cmpV st.H op u v Q) X
  | .more op e c, st, u, Q, X => WE C e st (fun v => cmpV st.H op u v (fun b => if b then WCh C c st v Q X else Q false)) X
noncomputable def WI (C : Cx) : It → St → (List V → List Nat → Prop) → (String → Prop) → Prop
  | .seq e, st, Q, X => WE C e st (fun u => match itemsV st.H u with
    | some vs => Q vs (depsV u)
    | Option.none => False) X
  | .rev e, st, Q, X => WE C e st (fun u => match seqL st.H u with
    | some vs => Q vs.reverse (depsV u)
    | Option.none => False) X
  | .range1 n, st, Q, X => WE C n st (fun u => rng1 [u] fun i => Q (upL 0 i) []) X
  | .range2 a b, st, Q, X => WE C a st (fun u => WE C b st (fun v => rng2 [u, v] fun i j => Q (upL i j) []) X) X
  | .range3 a b c, st, Q, X => WE C a st (fun u => WE C b st (fun v => WE C c st (fun w => rng3 [u, v, w] fun i j k => k = -1 ∧ Q (downL i j) []) X) X) X
  | .enum e, st, Q, X => WE C e st (fun u => rowP st.H u fun vs => Q (enumL 0 vs) (depsV u)) X
  | .zip a b, st, Q, X => WE C a st (fun u => WE C b st (fun v => rowP st.H u fun xs => rowP st.H v fun ys => Q (zipL xs ys) (depsV u ++ depsV v)) X) X
  | .keys e, st, Q, X => WE C e st (fun u => dictP st.H u fun a kvs => Q (kvs.map fun p => keyV p.1) [a]) X
end

noncomputable def freshAt (st : St) (a : Nat) : Prop := st.H a = Option.none ∧ st.B a = Option.none

mutual
noncomputable def WA (C : Cx) : A → St → (V → AH → Prop) → (String → Prop) → Prop
  | .pure e, st, Q, X => WE C e st (fun v => Q v st.H) X
  | .thaw e, st, Q, X => WE C e st (fun v => match v with
    | .lst vs => ∀ a, freshAt st a → Q (.ref a) (st.H.upd a (.list vs))
    | _ => False) X
  | .list as, st, Q, X => WAs C as st (fun vs H' => vs.length ≤ sizeLine ∧ ∀ a, H' a = Option.none → st.B a = Option.none → Q (.ref a) (H'.upd a (.list vs))) X
  | .dict, st, Q, _ => ∀ a, freshAt st a → Q (.ref a) (st.H.upd a (.dict []))
  | .new c args, st, Q, X => (match C.cls c with
    | some (k, n, fs) => WEs C args st (fun vs => vs.length = n ∧ ∀ a, freshAt st a → Q (.iref k (fs.map (·.1)) a) (st.H.upd a (.inst k (fs.map (·.1)) (fs.map fun f => iniV vs f.2)))) X
    | Option.none => False)
noncomputable def WAs (C : Cx) : As → St → (List V → AH → Prop) → (String → Prop) → Prop
  | .nil, st, Q, _ => Q [] st.H
  | .cons a as, st, Q, X => WA C a st (fun v H' => WAs C as { st with H := H' } (fun vs H'' => Q (v :: vs) H'') X) X
end

mutual
/-- statements that turn nothing but names -/
noncomputable def quietS : S → Bool
  | .expr _ => true
  | .assign _ _ => true
  | .own _ _ => true
  | .ite _ a b => quietB a && quietB b
  | .ret _ => true
  | _ => false
noncomputable def quietB : Bl → Bool
  | .nil => true
  | .cons s b => quietS s && quietB b
end
inductive Fl where
  | next | brk | cont
  | ret (v : V)

noncomputable def whileN (T : St → (Bool → Prop) → Prop) (W : St → (Fl → St → Prop) → Prop) (Q : Fl → St → Prop) : Nat → St → Prop
  | 0, _ => False
  | n + 1, st => T st fun b => if b then W st (fun f st' => match f with
      | .next | .cont => whileN T W Q n st'
      | .brk => Q .next st'
      | .ret v => Q (.ret v) st') else Q .next st

noncomputable def forL (t : Tg) (W : St → (Fl → St → Prop) → Prop) (Q : Fl → St → Prop) : List V → St → Prop
  | [], st => Q .next st
  | x :: xs, st => match bindT t x st.ρ with
    | some ρ' => W { st with ρ := ρ' } (fun f st' => match f with
      | .next | .cont => forL t W Q xs st'
      | .brk => Q .next st'
      | .ret v => Q (.ret v) st')
    | Option.none => False

mutual
noncomputable def WS (C : Cx) : S → St → (Fl → St → Prop) → (String → St → Prop) → Prop
  | .expr e, st, Q, X => WE C e st (fun _ => Q .next st) (fun x => X x st)
  | .assign t e, st, Q, X => WE C e st (fun v => match bindT t v st.ρ with
    | some ρ' => Q .next { st with ρ := ρ' }
    | Option.none => False) (fun x => X x st)
  | .own i a, st, Q, X => WA C a st (fun v H' => match putV i v st.ρ with
    | some ρ' => Q .next { st with ρ := ρ', H := H' }
    | Option.none => False) (fun x => X x st)
  | .append e a, st, Q, X => WE C e st (fun v => match v with
    | .ref ad => (match st.H ad with
      | some (.list _) => WA C a st (fun w H' => match H' ad with
        | some (.list vs) => st.B ad = Option.none ∧ vs.length < sizeLine ∧ Q .next { st with H := H'.upd ad (.list (vs ++ [w])) }
        | _ => False) (fun x => X x st)
      | _ => False)
    | _ => False) (fun x => X x st)
  | .pop t e, st, Q, X => WE C e st (fun v => match v with
    | .ref ad => (match st.H ad with
      | some (.list vs) => (match vs.getLast? with
        | some w => st.B ad = Option.none ∧ (match bindT t w st.ρ with
          | some ρ' => Q .next { st with ρ := ρ', H := st.H.upd ad (.list vs.dropLast) }
          | Option.none => False)
        | Option.none => False)
      | _ => False)
    | _ => False) (fun x => X x st)
  | .setitem e k v, st, Q, X => WE C v st (fun w => WE C e st (fun u => WE C k st (fun kk => setV st.H st.B u kk fun ad vs n => Q .next { st with H := st.H.upd ad (.list (vs.set n w)) }) (fun x => X x st)) (fun x => X x st)) (fun x => X x st)
  | .setkey e k v, st, Q, X => WE C v st (fun w => WE C e st (fun u => WE C k st (fun kk => dictP st.H u fun ad kvs => keyP kk fun ks => st.B ad = Option.none ∧ kvs.length < sizeLine ∧ Q .next { st with H := st.H.upd ad (.dict (dput ks w kvs)) }) (fun x => X x st)) (fun x => X x st)) (fun x => X x st)
  | .setattr e n v, st, Q, X => WE C v st (fun w => WE C e st (fun u => match u with
    | .iref c' ns' ad => st.B ad = Option.none ∧ (match st.H ad with
      | some (.inst c ns vs) => C.has c ns = true ∧ c = c' ∧ ns = ns' ∧ (match setAttrL n w ns vs with
        | some vs' => Q .next { st with H := st.H.upd ad (.inst c ns vs') }
        | Option.none => False)
      | _ => False)
    | _ => False) (fun x => X x st)) (fun x => X x st)
  | .ite t a b, st, Q, X => WE C t st (fun u => match truthV st.H u with
    | some true => WB C a st Q X
    | some false => WB C b st Q X
    | Option.none => False) (fun x => X x st)
  | .while t b, st, Q, X => ∃ n, whileN (fun st' K => WE C t st' (fun u => match truthV st'.H u with
      | some r => K r
      | Option.none => False) (fun x => X x st')) (fun st' K => WB C b st' K X) Q n st
  | .for t it b, st, Q, X => WI C it st (fun xs ds => (quietB b = true ∨ ∀ a ∈ ds, st.B a ≠ Option.none) ∧ forL t (fun st' K => WB C b st' K X) Q xs st) (fun x => X x st)
  | .ret e, st, Q, X => WE C e st (fun v => Q (.ret v) st) (fun x => X x st)
  | .raise _ _, _, _, _ => False
  | .tryEx _ _ _ _, _, _, _ => False
noncomputable def WB (C : Cx) : Bl → St → (Fl → St → Prop) → (String → St → Prop) → Prop
  | .nil, st, Q, _ => Q .next st
  | .cons s b, st, Q, X => WS C s st (fun f st' => match f with
    | .next => WB C b st' Q X
    | f => Q f st') X
end

noncomputable def mapO (f : V → Option V) : List V → Option (List V)
  | [] => some []
  | v :: vs => match f v, mapO f vs with
    | some x, some xs => some (x :: xs)
    | _, _ => Option.none
noncomputable def frz (H B : AH) : Nat → V → Option V
  | 0, _ => Option.none
  | n + 1, v => match v with
    | .ref a => (match B a with
      | some _ => some (.ref a)
      | Option.none => (match H a with
        | some (.list vs) => (mapO (frz H B n) vs).map .lst
        | _ => Option.none))
    | .iref c ns a => (match B a with
      | some _ => some (.iref c ns a)
      | Option.none => (match H a with
        | some (.inst _ ns' vs) => if ns' = ns then (mapO (frz H B n) vs).map (.inst c ns) else Option.none
        | _ => Option.none))
    | .tup vs => (mapO (frz H B n) vs).map .tup
    | .lst vs => (mapO (frz H B n) vs).map .lst
    | .inst c ns vs => (mapO (frz H B n) vs).map (.inst c ns)
    | v => some v
noncomputable def frzs (H B : AH) (n : Nat) (vs : List V) : Option (List V) := mapO (frz H B n) vs

noncomputable abbrev Tbl := List (String × Fn)
noncomputable abbrev Clss := List (String × Nat × Nat × List (String × Ini))
noncomputable def hasC (cls : Clss) (c : Nat) (ns : List String) : Bool := cls.any fun r => decide (r.2.1 = c) && decide (r.2.2.2.map (·.1) = ns)

noncomputable def callN (tbl : Tbl) (glob : List (String × V)) (cls : Clss) : Nat → CallSem
  | 0 => fun _ _ _ _ _ => False
  | d + 1 => fun f args H Q X => match tbl.lookup f with
    | Option.none => False
    | some fn => args.length = fn.np ∧ fn.np ≤ fn.nv ∧ WB ⟨callN tbl glob cls d, fun x => glob.lookup x, fun x => cls.lookup x, hasC cls⟩ fn.body
        ⟨args.map some ++ List.replicate (fn.nv - fn.np) Option.none, H, H⟩
        (fun fl st => match fl with
          | .ret v => (match frz st.H H 8 v with
            | some v' => Q v'
            | Option.none => False)
          | .next => Q .none
          | _ => False) (fun x _ => X x)
noncomputable def cxN (tbl : Tbl) (glob : List (String × V)) (cls : Clss) (d : Nat) : Cx := ⟨callN tbl glob cls d, fun x => glob.lookup x, fun x => cls.lookup x, hasC cls⟩

/-- a thing that an expression has just made -/
noncomputable def isFresh : E → Bool
  | .list _ => true
  | .comp _ _ _ => true
  | .compIf _ _ _ _ => true
  | .listOf _ => true
  | .bin _ _ _ => true
  | _ => false

end Mine
end

set_option autoImplicit false
namespace Mine
open PySem
@[local simp] theorem we_0 {C} {u1} {Q} {u3} : WE C (.none) u1 Q u3 = (Q .none) := rfl
@[local simp] theorem we_1 {C} {b} {u1} {Q} {u3} : WE C (.bool b) u1 Q u3 = (Q (.bool b)) := rfl
@[local simp] theorem we_2 {C} {i} {u1} {Q} {u3} : WE C (.int i) u1 Q u3 = (Q (.int i)) := rfl
@[local simp] theorem we_3 {C} {s} {u1} {Q} {u3} : WE C (.str s) u1 Q u3 = (Q (.str s)) := rfl
theorem we_4 {C} {i} {st} {Q} {u3} : WE C (.var i) st Q u3 = ((match st.ρ[i]? with
    | some (some v) => Q v
    | _ => False)) := rfl
@[local simp] theorem we_5 {C} {x} {u1} {Q} {u3} : WE C (.glob x) u1 Q u3 = ((match C.glob x with
    | some v => Q v
    | Option.none => False)) := rfl
@[local simp] theorem we_6 {C} {op} {a} {b} {st} {Q} {X} : WE C (.bin op a b) st Q X = (WE C a st (fun u => WE C b st (fun v => binV st.H op u v Q) X) X) := rfl
@[local simp] theorem we_7 {C} {a} {st} {Q} {X} : WE C (.neg a) st Q X = (WE C a st (fun u => match u with
    | .int i => Q (.int (-i))
    | _ => False) X) := rfl
@[local simp] theorem we_8 {C} {a} {st} {Q} {X} : WE C (.not a) st Q X = (WE C a st (fun u => match truthV st.H u with
    | some b => Q (.bool (!b))
    | Option.none => False) X) := rfl
@[local simp] theorem we_9 {C} {a} {b} {st} {Q} {X} : WE C (.and a b) st Q X = (WE C a st (fun u => match truthV st.H u with
    | some true => WE C b st Q X
    | some false => Q u
    | Option.none => False) X) := rfl
@[local simp] theorem we_10 {C} {a} {b} {st} {Q} {X} : WE C (.or a b) st Q X = (WE C a st (fun u => match truthV st.H u with
    | some true => Q u
    | some false => WE C b st Q X
    | Option.none => False) X) := rfl
@[local simp] theorem we_11 {C} {t} {a} {b} {st} {Q} {X} : WE C (.ite t a b) st Q X = (WE C t st (fun u => match truthV st.H u with
    | some true => WE C a st Q X
    | some false => WE C b st Q X
    | Option.none => False) X) := rfl
@[local simp] theorem we_12 {C} {es} {st} {Q} {X} : WE C (.list es) st Q X = (WEs C es st (fun vs => vs.length ≤ sizeLine ∧ Q (.lst vs)) X) := rfl
@[local simp] theorem we_13 {C} {es} {st} {Q} {X} : WE C (.tup es) st Q X = (WEs C es st (fun vs => vs.length ≤ sizeLine ∧ Q (.tup vs)) X) := rfl
@[local simp] theorem we_14 {C} {a} {c} {st} {Q} {X} : WE C (.cmp a c) st Q X = (WE C a st (fun u => WCh C c st u (fun b => Q (.bool b)) X) X) := rfl
@[local simp] theorem we_15 {C} {a} {i} {st} {Q} {X} : WE C (.sub a i) st Q X = (WE C a st (fun u => WE C i st (fun k => subV st.H u k Q) X) X) := rfl
@[local simp] theorem we_16 {C} {a} {lo} {hi} {st} {Q} {X} : WE C (.slice a lo hi) st Q X = (WE C a st (fun u => WE C lo st (fun l => WE C hi st (fun h => sliceV st.H u l h Q) X) X) X) := rfl
@[local simp] theorem we_17 {C} {f} {args} {st} {Q} {X} : WE C (.call f args) st Q X = (WEs C args st (fun vs => C.call f vs st.H Q X) X) := rfl
@[local simp] theorem we_18 {C} {a} {t} {st} {Q} {X} : WE C (.isinst a t) st Q X = (WE C a st (fun u => match isT st.H t u with
    | some b => Q (.bool b)
    | Option.none => False) X) := rfl
@[local simp] theorem we_19 {C} {a} {st} {Q} {X} : WE C (.len a) st Q X = (WE C a st (fun u => match sizeV st.H u with
    | some n => Q (.int n)
    | Option.none => False) X) := rfl
@[local simp] theorem we_20 {C} {a} {st} {Q} {X} : WE C (.sum a) st Q X = (WE C a st (fun u => sum1 st.H [u] fun n => Q (.int n)) X) := rfl
@[local simp] theorem we_21 {C} {a} {b} {st} {Q} {X} : WE C (.max2 a b) st Q X = (WE C a st (fun u => WE C b st (fun v => int2 [u, v] fun i j => Q (.int (if j > i then j else i))) X) X) := rfl
@[local simp] theorem we_22 {C} {a} {b} {st} {Q} {X} : WE C (.min2 a b) st Q X = (WE C a st (fun u => WE C b st (fun v => int2 [u, v] fun i j => Q (.int (if j < i then j else i))) X) X) := rfl
@[local simp] theorem we_23 {C} {a} {st} {Q} {X} : WE C (.maxl a) st Q X = (WE C a st (fun u => max1 st.H [u] fun n => Q (.int n)) X) := rfl
@[local simp] theorem we_24 {C} {a} {d} {st} {Q} {X} : WE C (.maxd a d) st Q X = (WE C a st (fun u => WE C d st (fun v => maxD st.H u v Q) X) X) := rfl
@[local simp] theorem we_25 {C} {a} {st} {Q} {X} : WE C (.strOf a) st Q X = (WE C a st (fun u => intP u fun i => i.natAbs < 2 ^ 62 ∧ Q (.str (Str.ofString (toString i)))) X) := rfl
@[local simp] theorem we_26 {C} {a} {st} {Q} {X} : WE C (.intOf a) st Q X = (WE C a st (fun u => intOfV u Q) X) := rfl
@[local simp] theorem we_27 {C} {a} {st} {Q} {X} : WE C (.tupOf a) st Q X = (WE C a st (fun u => seqP st.H u fun vs => Q (.tup vs)) X) := rfl
@[local simp] theorem we_28 {C} {it} {st} {Q} {X} : WE C (.listOf it) st Q X = (WI C it st (fun vs _ => vs.length ≤ sizeLine ∧ Q (.lst vs)) X) := rfl
@[local simp] theorem we_29 {C} {s} {a} {st} {Q} {X} : WE C (.join s a) st Q X = (WE C s st (fun u => WE C a st (fun v => match u, (seqL st.H v).bind strsOf with
    | .str s, some ss => lenAll ss + s.length * ss.length ≤ sizeLine ∧ Q (.str (Str.join s ss))
    | _, _ => False) X) X) := rfl
@[local simp] theorem we_30 {C} {d} {k} {v} {st} {Q} {X} : WE C (.get d k v) st Q X = (WE C d st (fun u => dictP st.H u fun _ kvs => WE C k st (fun kk => WE C v st (fun w => keyP kk fun ks => Q ((dlook ks kvs).getD w)) X) X) X) := rfl
@[local simp] theorem we_31 {C} {u1} {u2} {u3} : WE C (.dict0) u1 u2 u3 = (False) := rfl
@[local simp] theorem we_32 {C} {a} {n} {st} {Q} {X} : WE C (.attr a n) st Q X = (WE C a st (fun u => match u with
    | .inst c ns vs => C.has c ns = true ∧ (match attrL n ns vs with
      | some v => Q v
      | Option.none => False)
    | .iref c ns ad => (match st.H ad with
      | some (.inst c' ns' vs) => C.has c ns = true ∧ c' = c ∧ ns' = ns ∧ (match attrL n ns vs with
        | some v => Q v
        | Option.none => False)
      | _ => False)
    | _ => False) X) := rfl
@[local simp] theorem we_33 {C} {c} {args} {st} {Q} {X} : WE C (.new c args) st Q X = ((match C.cls c with
    | some (k, n, fs) => WEs C args st (fun vs => vs.length = n ∧ Q (.inst k (fs.map (·.1)) (fs.map fun f => iniV vs f.2))) X
    | Option.none => False)) := rfl
@[local simp] theorem we_34 {C} {elt} {t} {it} {st} {Q} {X} : WE C (.comp elt t it) st Q X = (WI C it st (fun xs _ => xs.length ≤ sizeLine ∧
      compL (fun x k => match bindT t x st.ρ with
        | some ρ' => WE C elt { st with ρ := ρ' } (fun y => k (some y)) (fun _ => False)
        | Option.none => False) xs (fun ys => Q (.lst ys))) X) := rfl
@[local simp] theorem we_35 {C} {elt} {t} {it} {c} {st} {Q} {X} : WE C (.compIf elt t it c) st Q X = (WI C it st (fun xs _ => xs.length ≤ sizeLine ∧
      compL (fun x k => match bindT t x st.ρ with
        | some ρ' => WE C c { st with ρ := ρ' } (fun u => match truthV st.H u with
          | some true => WE C elt { st with ρ := ρ' } (fun y => k (some y)) (fun _ => False)
          | some false => k Option.none
          | Option.none => False) (fun _ => False)
        | Option.none => False) xs (fun ys => Q (.lst ys))) X) := rfl
@[local simp] theorem wes_0 {C} {u1} {Q} {u3} : WEs C (.nil) u1 Q u3 = (Q []) := rfl
@[local simp] theorem wes_1 {C} {e} {es} {st} {Q} {X} : WEs C (.cons e es) st Q X = (WE C e st (fun v => WEs C es st (fun vs => Q (v :: vs)) X) X) := rfl
@[local simp] theorem wch_0 {C} {op} {e} {st} {u} {Q} {X} : WCh C (.one op e) st u Q X = (WE C e st (fun v => cmpV st.H op u v Q) X) := rfl
@[local simp] theorem wch_1 {C} {op} {e} {c} {st} {u} {Q} {X} : WCh C (.more op e c) st u Q X = (WE C e st (fun v => cmpV st.H op u v (fun b => if b then WCh C c st v Q X else Q false)) X) := rfl
@[local simp] theorem wi_0 {C} {e} {st} {Q} {X} : WI C (.seq e) st Q X = (WE C e st (fun u => match itemsV st.H u with
    | some vs => Q vs (depsV u)
    | Option.none => False) X) := rfl
@[local simp] theorem wi_1 {C} {e} {st} {Q} {X} : WI C (.rev e) st Q X = (WE C e st (fun u => match seqL st.H u with
    | some vs => Q vs.reverse (depsV u)
    | Option.none => False) X) := rfl
@[local simp] theorem wi_2 {C} {n} {st} {Q} {X} : WI C (.range1 n) st Q X = (WE C n st (fun u => rng1 [u] fun i => Q (upL 0 i) []) X) := rfl
@[local simp] theorem wi_3 {C} {a} {b} {st} {Q} {X} : WI C (.range2 a b) st Q X = (WE C a st (fun u => WE C b st (fun v => rng2 [u, v] fun i j => Q (upL i j) []) X) X) := rfl
@[local simp] theorem wi_4 {C} {a} {b} {c} {st} {Q} {X} : WI C (.range3 a b c) st Q X = (WE C a st (fun u => WE C b st (fun v => WE C c st (fun w => rng3 [u, v, w] fun i j k => k = -1 ∧ Q (downL i j) []) X) X) X) := rfl
@[local simp] theorem wi_5 {C} {e} {st} {Q} {X} : WI C (.enum e) st Q X = (WE C e st (fun u => rowP st.H u fun vs => Q (enumL 0 vs) (depsV u)) X) := rfl
@[local simp] theorem wi_6 {C} {a} {b} {st} {Q} {X} : WI C (.zip a b) st Q X = (WE C a st (fun u => WE C b st (fun v => rowP st.H u fun xs => rowP st.H v fun ys => Q (zipL xs ys) (depsV u ++ depsV v)) X) X) := rfl
@[local simp] theorem wi_7 {C} {e} {st} {Q} {X} : WI C (.keys e) st Q X = (WE C e st (fun u => dictP st.H u fun a kvs => Q (kvs.map fun p => keyV p.1) [a]) X) := rfl
@[local simp] theorem wa_0 {C} {e} {st} {Q} {X} : WA C (.pure e) st Q X = (WE C e st (fun v => Q v st.H) X) := rfl
@[local simp] theorem wa_1 {C} {e} {st} {Q} {X} : WA C (.thaw e) st Q X = (WE C e st (fun v => match v with
    | .lst vs => ∀ a, freshAt st a → Q (.ref a) (st.H.upd a (.list vs))
    | _ => False) X) := rfl
@[local simp] theorem wa_2 {C} {as} {st} {Q} {X} : WA C (.list as) st Q X = (WAs C as st (fun vs H' => vs.length ≤ sizeLine ∧ ∀ a, H' a = Option.none → st.B a = Option.none → Q (.ref a) (H'.upd a (.list vs))) X) := rfl
@[local simp] theorem wa_3 {C} {st} {Q} {u3} : WA C (.dict) st Q u3 = (∀ a, freshAt st a → Q (.ref a) (st.H.upd a (.dict []))) := rfl
@[local simp] theorem wa_4 {C} {c} {args} {st} {Q} {X} : WA C (.new c args) st Q X = ((match C.cls c with
    | some (k, n, fs) => WEs C args st (fun vs => vs.length = n ∧ ∀ a, freshAt st a → Q (.iref k (fs.map (·.1)) a) (st.H.upd a (.inst k (fs.map (·.1)) (fs.map fun f => iniV vs f.2)))) X
    | Option.none => False)) := rfl
@[local simp] theorem was_0 {C} {st} {Q} {u3} : WAs C (.nil) st Q u3 = (Q [] st.H) := rfl
@[local simp] theorem was_1 {C} {a} {as} {st} {Q} {X} : WAs C (.cons a as) st Q X = (WA C a st (fun v H' => WAs C as { st with H := H' } (fun vs H'' => Q (v :: vs) H'') X) X) := rfl
@[local simp] theorem ws_0 {C} {e} {st} {Q} {X} : WS C (.expr e) st Q X = (WE C e st (fun _ => Q .next st) (fun x => X x st)) := rfl
@[local simp] theorem ws_1 {C} {t} {e} {st} {Q} {X} : WS C (.assign t e) st Q X = (WE C e st (fun v => match bindT t v st.ρ with
    | some ρ' => Q .next { st with ρ := ρ' }
    | Option.none => False) (fun x => X x st)) := rfl
@[local simp] theorem ws_2 {C} {i} {a} {st} {Q} {X} : WS C (.own i a) st Q X = (WA C a st (fun v H' => match putV i v st.ρ with
    | some ρ' => Q .next { st with ρ := ρ', H := H' }
    | Option.none => False) (fun x => X x st)) := rfl
@[local simp] theorem ws_3 {C} {e} {a} {st} {Q} {X} : WS C (.append e a) st Q X = (WE C e st (fun v => match v with
    | .ref ad => (match st.H ad with
      | some (.list _) => WA C a st (fun w H' => match H' ad with
        | some (.list vs) => st.B ad = Option.none ∧ vs.length < sizeLine ∧ Q .next { st with H := H'.upd ad (.list (vs ++ [w])) }
        | _ => False) (fun x => X x st)
      | _ => False)
    | _ => False) (fun x => X x st)) := rfl
@[local simp] theorem ws_4 {C} {t} {e} {st} {Q} {X} : WS C (.pop t e) st Q X = (WE C e st (fun v => match v with
    | .ref ad => (match st.H ad with
      | some (.list vs) => (match vs.getLast? with
        | some w => st.B ad = Option.none ∧ (match bindT t w st.ρ with
          | some ρ' => Q .next { st with ρ := ρ', H := st.H.upd ad (.list vs.dropLast) }
          | Option.none => False)
        | Option.none => False)
      | _ => False)
    | _ => False) (fun x => X x st)) := rfl
@[local simp] theorem ws_5 {C} {e} {k} {v} {st} {Q} {X} : WS C (.setitem e k v) st Q X = (WE C v st (fun w => WE C e st (fun u => WE C k st (fun kk => setV st.H st.B u kk fun ad vs n => Q .next { st with H := st.H.upd ad (.list (vs.set n w)) }) (fun x => X x st)) (fun x => X x st)) (fun x => X x st)) := rfl
@[local simp] theorem ws_6 {C} {e} {k} {v} {st} {Q} {X} : WS C (.setkey e k v) st Q X = (WE C v st (fun w => WE C e st (fun u => WE C k st (fun kk => dictP st.H u fun ad kvs => keyP kk fun ks => st.B ad = Option.none ∧ kvs.length < sizeLine ∧ Q .next { st with H := st.H.upd ad (.dict (dput ks w kvs)) }) (fun x => X x st)) (fun x => X x st)) (fun x => X x st)) := rfl
@[local simp] theorem ws_7 {C} {e} {n} {v} {st} {Q} {X} : WS C (.setattr e n v) st Q X = (WE C v st (fun w => WE C e st (fun u => match u with
    | .iref c' ns' ad => st.B ad = Option.none ∧ (match st.H ad with
      | some (.inst c ns vs) => C.has c ns = true ∧ c = c' ∧ ns = ns' ∧ (match setAttrL n w ns vs with
        | some vs' => Q .next { st with H := st.H.upd ad (.inst c ns vs') }
        | Option.none => False)
      | _ => False)
    | _ => False) (fun x => X x st)) (fun x => X x st)) := rfl
@[local simp] theorem ws_8 {C} {t} {a} {b} {st} {Q} {X} : WS C (.ite t a b) st Q X = (WE C t st (fun u => match truthV st.H u with
    | some true => WB C a st Q X
    | some false => WB C b st Q X
    | Option.none => False) (fun x => X x st)) := rfl
@[local simp] theorem ws_9 {C} {t} {b} {st} {Q} {X} : WS C (.while t b) st Q X = (∃ n, whileN (fun st' K => WE C t st' (fun u => match truthV st'.H u with
      | some r => K r
      | Option.none => False) (fun x => X x st')) (fun st' K => WB C b st' K X) Q n st) := rfl
@[local simp] theorem ws_10 {C} {t} {it} {b} {st} {Q} {X} : WS C (.for t it b) st Q X = (WI C it st (fun xs ds => (quietB b = true ∨ ∀ a ∈ ds, st.B a ≠ Option.none) ∧ forL t (fun st' K => WB C b st' K X) Q xs st) (fun x => X x st)) := rfl
@[local simp] theorem ws_11 {C} {e} {st} {Q} {X} : WS C (.ret e) st Q X = (WE C e st (fun v => Q (.ret v) st) (fun x => X x st)) := rfl
@[local simp] theorem ws_12 {C} {w0_7} {w0_9} {u1} {u2} {u3} : WS C (.raise w0_7 w0_9) u1 u2 u3 = (False) := rfl
@[local simp] theorem ws_13 {C} {w0_7} {w0_9} {w0_11} {w0_13} {u1} {u2} {u3} : WS C (.tryEx w0_7 w0_9 w0_11 w0_13) u1 u2 u3 = (False) := rfl
theorem wb_0 {C} {st} {Q} {u3} : WB C (.nil) st Q u3 = (Q .next st) := rfl
theorem wb_1 {C} {s} {b} {st} {Q} {X} : WB C (.cons s b) st Q X = (WS C s st (fun f st' => match f with
    | .next => WB C b st' Q X
    | f => Q f st') X) := rfl
@[local simp] theorem tv_none {H : AH}  : truthV H .none = Option.none := rfl
@[local simp] theorem tv_bool {H : AH} {b : Bool} : truthV H (.bool b) = some b := rfl
@[local simp] theorem tv_int {H : AH} {i : Int} : truthV H (.int i) = Option.none := rfl
@[local simp] theorem tv_str {H : AH} {s : Str} : truthV H (.str s) = Option.none := rfl
@[local simp] theorem tv_tup {H : AH} {vs : List V} : truthV H (.tup vs) = Option.none := rfl
@[local simp] theorem tv_lst {H : AH} {vs : List V} : truthV H (.lst vs) = Option.none := rfl
@[local simp] theorem tv_ref {H : AH} {a : Nat} : truthV H (.ref a) = Option.none := rfl
@[local simp] theorem tv_inst {H : AH} {c : Nat} {ns : List String} {vs : List V} : truthV H (.inst c ns vs) = Option.none := rfl
@[local simp] theorem tv_iref {H : AH} {c : Nat} {ns : List String} {a : Nat} : truthV H (.iref c ns a) = Option.none := rfl
@[local simp] theorem iv_none {H : AH}  : itemsV H .none = Option.none := rfl
@[local simp] theorem iv_bool {H : AH} {b : Bool} : itemsV H (.bool b) = Option.none := rfl
@[local simp] theorem iv_int {H : AH} {i : Int} : itemsV H (.int i) = Option.none := rfl
@[local simp] theorem iv_str {H : AH} {s : Str} : itemsV H (.str s) = some (signsOf s) := rfl
@[local simp] theorem iv_tup {H : AH} {vs : List V} : itemsV H (.tup vs) = some vs := rfl
@[local simp] theorem iv_lst {H : AH} {vs : List V} : itemsV H (.lst vs) = some vs := rfl
@[local simp] theorem iv_ref {H : AH} {a : Nat} : itemsV H (.ref a) = (match H a with
    | some (.list vs) => some vs
    | _ => Option.none) := rfl
@[local simp] theorem iv_inst {H : AH} {c : Nat} {ns : List String} {vs : List V} : itemsV H (.inst c ns vs) = Option.none := rfl
@[local simp] theorem iv_iref {H : AH} {c : Nat} {ns : List String} {a : Nat} : itemsV H (.iref c ns a) = Option.none := rfl
@[local simp] theorem sq_none {H : AH}  : seqL H .none = Option.none := rfl
@[local simp] theorem sq_bool {H : AH} {b : Bool} : seqL H (.bool b) = Option.none := rfl
@[local simp] theorem sq_int {H : AH} {i : Int} : seqL H (.int i) = Option.none := rfl
@[local simp] theorem sq_str {H : AH} {s : Str} : seqL H (.str s) = Option.none := rfl
@[local simp] theorem sq_tup {H : AH} {vs : List V} : seqL H (.tup vs) = Option.none := rfl
@[local simp] theorem sq_lst {H : AH} {vs : List V} : seqL H (.lst vs) = some vs := rfl
@[local simp] theorem sq_ref {H : AH} {a : Nat} : seqL H (.ref a) = (match H a with
    | some (.list vs) => some vs
    | _ => Option.none) := rfl
@[local simp] theorem sq_inst {H : AH} {c : Nat} {ns : List String} {vs : List V} : seqL H (.inst c ns vs) = Option.none := rfl
@[local simp] theorem sq_iref {H : AH} {c : Nat} {ns : List String} {a : Nat} : seqL H (.iref c ns a) = Option.none := rfl
@[local simp] theorem zv_none {H : AH}  : sizeV H .none = Option.none := rfl
@[local simp] theorem zv_bool {H : AH} {b : Bool} : sizeV H (.bool b) = Option.none := rfl
@[local simp] theorem zv_int {H : AH} {i : Int} : sizeV H (.int i) = Option.none := rfl
@[local simp] theorem zv_str {H : AH} {s : Str} : sizeV H (.str s) = some s.length := rfl
@[local simp] theorem zv_tup {H : AH} {vs : List V} : sizeV H (.tup vs) = some vs.length := rfl
@[local simp] theorem zv_lst {H : AH} {vs : List V} : sizeV H (.lst vs) = some vs.length := rfl
@[local simp] theorem zv_ref {H : AH} {a : Nat} : sizeV H (.ref a) = (match H a with
    | some (.list vs) => some vs.length
    | _ => Option.none) := rfl
@[local simp] theorem zv_inst {H : AH} {c : Nat} {ns : List String} {vs : List V} : sizeV H (.inst c ns vs) = Option.none := rfl
@[local simp] theorem zv_iref {H : AH} {c : Nat} {ns : List String} {a : Nat} : sizeV H (.iref c ns a) = Option.none := rfl
@[local simp] theorem dv_none   : depsV .none = [] := rfl
@[local simp] theorem dv_bool  {b : Bool} : depsV (.bool b) = [] := rfl
@[local simp] theorem dv_int  {i : Int} : depsV (.int i) = [] := rfl
@[local simp] theorem dv_str  {s : Str} : depsV (.str s) = [] := rfl
@[local simp] theorem dv_tup  {vs : List V} : depsV (.tup vs) = [] := rfl
@[local simp] theorem dv_lst  {vs : List V} : depsV (.lst vs) = [] := rfl
@[local simp] theorem dv_ref  {a : Nat} : depsV (.ref a) = [a] := rfl
@[local simp] theorem dv_inst  {c : Nat} {ns : List String} {vs : List V} : depsV (.inst c ns vs) = [] := rfl
@[local simp] theorem dv_iref  {c : Nat} {ns : List String} {a : Nat} : depsV (.iref c ns a) = [] := rfl
theorem rv_none {H : AH}  : resV H .none = .none := rfl
theorem rv_bool {H : AH} {b : Bool} : resV H (.bool b) = (.bool b) := rfl
theorem rv_int {H : AH} {i : Int} : resV H (.int i) = (.int i) := rfl
theorem rv_str {H : AH} {s : Str} : resV H (.str s) = (.str s) := rfl
theorem rv_tup {H : AH} {vs : List V} : resV H (.tup vs) = (.tup vs) := rfl
theorem rv_lst {H : AH} {vs : List V} : resV H (.lst vs) = (.lst vs) := rfl
theorem rv_ref {H : AH} {a : Nat} : resV H (.ref a) = (match H a with
    | some (.list vs) => .lst vs
    | _ => .ref a) := rfl
theorem rv_inst {H : AH} {c : Nat} {ns : List String} {vs : List V} : resV H (.inst c ns vs) = (.inst c ns vs) := rfl
theorem rv_iref {H : AH} {c : Nat} {ns : List String} {a : Nat} : resV H (.iref c ns a) = (.iref c ns a) := rfl
theorem td_none   : toD .none = some .none := rfl
theorem td_bool  {b : Bool} : toD (.bool b) = some (.bool b) := rfl
theorem td_int  {i : Int} : toD (.int i) = some (.int i) := rfl
theorem td_str  {s : Str} : toD (.str s) = some (.str s) := rfl
theorem td_tup  {vs : List V} : toD (.tup vs) = (toDs vs).map .tuple := rfl
theorem td_lst  {vs : List V} : toD (.lst vs) = (toDs vs).map .list := rfl
theorem td_ref  {a : Nat} : toD (.ref a) = Option.none := rfl
theorem td_inst  {c : Nat} {ns : List String} {vs : List V} : toD (.inst c ns vs) = Option.none := rfl
theorem td_iref  {c : Nat} {ns : List String} {a : Nat} : toD (.iref c ns a) = Option.none := rfl
theorem tds_nil  : toDs [] = some [] := rfl
theorem tds_cons {v : V} {vs : List V} : toDs (v :: vs) = (match toD v, toDs vs with
    | some d, some ds => some (d :: ds)
    | _, _ => Option.none) := rfl
@[local simp] theorem ist_none {H : AH} {t : Ty}  : isT H t .none = isV t .none := rfl
@[local simp] theorem ist_bool {H : AH} {t : Ty} {b : Bool} : isT H t (.bool b) = isV t (.bool b) := rfl
@[local simp] theorem ist_int {H : AH} {t : Ty} {i : Int} : isT H t (.int i) = isV t (.int i) := rfl
@[local simp] theorem ist_str {H : AH} {t : Ty} {s : Str} : isT H t (.str s) = isV t (.str s) := rfl
@[local simp] theorem ist_tup {H : AH} {t : Ty} {vs : List V} : isT H t (.tup vs) = isV t (.tup vs) := rfl
@[local simp] theorem ist_lst {H : AH} {t : Ty} {vs : List V} : isT H t (.lst vs) = isV t (.lst vs) := rfl
@[local simp] theorem ist_ref {H : AH} {t : Ty} {a : Nat} : isT H t (.ref a) = (match H a with
    | some (.list _) => isV t (.lst [])
    | _ => Option.none) := rfl
@[local simp] theorem ist_inst {H : AH} {t : Ty} {c : Nat} {ns : List String} {vs : List V} : isT H t (.inst c ns vs) = isV t (.inst c ns vs) := rfl
@[local simp] theorem ist_iref {H : AH} {t : Ty} {c : Nat} {ns : List String} {a : Nat} : isT H t (.iref c ns a) = isV t (.iref c ns a) := rfl
@[local simp] theorem isv_int_none  : isV .int .none = some false := rfl
@[local simp] theorem isv_int_bool {b : Bool} : isV .int (.bool b) = some true := rfl
@[local simp] theorem isv_int_int {i : Int} : isV .int (.int i) = some true := rfl
@[local simp] theorem isv_int_str {s : Str} : isV .int (.str s) = some false := rfl
@[local simp] theorem isv_int_tup {vs : List V} : isV .int (.tup vs) = some false := rfl
@[local simp] theorem isv_int_lst {vs : List V} : isV .int (.lst vs) = some false := rfl
@[local simp] theorem isv_int_ref {a : Nat} : isV .int (.ref a) = Option.none := rfl
@[local simp] theorem isv_int_inst {c : Nat} {ns : List String} {vs : List V} : isV .int (.inst c ns vs) = Option.none := rfl
@[local simp] theorem isv_int_iref {c : Nat} {ns : List String} {a : Nat} : isV .int (.iref c ns a) = Option.none := rfl
@[local simp] theorem isv_bool_none  : isV .bool .none = some false := rfl
@[local simp] theorem isv_bool_bool {b : Bool} : isV .bool (.bool b) = some true := rfl
@[local simp] theorem isv_bool_int {i : Int} : isV .bool (.int i) = some false := rfl
@[local simp] theorem isv_bool_str {s : Str} : isV .bool (.str s) = some false := rfl
@[local simp] theorem isv_bool_tup {vs : List V} : isV .bool (.tup vs) = some false := rfl
@[local simp] theorem isv_bool_lst {vs : List V} : isV .bool (.lst vs) = some false := rfl
@[local simp] theorem isv_bool_ref {a : Nat} : isV .bool (.ref a) = Option.none := rfl
@[local simp] theorem isv_bool_inst {c : Nat} {ns : List String} {vs : List V} : isV .bool (.inst c ns vs) = Option.none := rfl
@[local simp] theorem isv_bool_iref {c : Nat} {ns : List String} {a : Nat} : isV .bool (.iref c ns a) = Option.none := rfl
@[local simp] theorem isv_str_none  : isV .str .none = some false := rfl
@[local simp] theorem isv_str_bool {b : Bool} : isV .str (.bool b) = some false := rfl
@[local simp] theorem isv_str_int {i : Int} : isV .str (.int i) = some false := rfl
@[local simp] theorem isv_str_str {s : Str} : isV .str (.str s) = some true := rfl
@[local simp] theorem isv_str_tup {vs : List V} : isV .str (.tup vs) = some false := rfl
@[local simp] theorem isv_str_lst {vs : List V} : isV .str (.lst vs) = some false := rfl
@[local simp] theorem isv_str_ref {a : Nat} : isV .str (.ref a) = Option.none := rfl
@[local simp] theorem isv_str_inst {c : Nat} {ns : List String} {vs : List V} : isV .str (.inst c ns vs) = Option.none := rfl
@[local simp] theorem isv_str_iref {c : Nat} {ns : List String} {a : Nat} : isV .str (.iref c ns a) = Option.none := rfl
@[local simp] theorem isv_tuple_none  : isV .tuple .none = some false := rfl
@[local simp] theorem isv_tuple_bool {b : Bool} : isV .tuple (.bool b) = some false := rfl
@[local simp] theorem isv_tuple_int {i : Int} : isV .tuple (.int i) = some false := rfl
@[local simp] theorem isv_tuple_str {s : Str} : isV .tuple (.str s) = some false := rfl
@[local simp] theorem isv_tuple_tup {vs : List V} : isV .tuple (.tup vs) = some true := rfl
@[local simp] theorem isv_tuple_lst {vs : List V} : isV .tuple (.lst vs) = some false := rfl
@[local simp] theorem isv_tuple_ref {a : Nat} : isV .tuple (.ref a) = Option.none := rfl
@[local simp] theorem isv_tuple_inst {c : Nat} {ns : List String} {vs : List V} : isV .tuple (.inst c ns vs) = Option.none := rfl
@[local simp] theorem isv_tuple_iref {c : Nat} {ns : List String} {a : Nat} : isV .tuple (.iref c ns a) = Option.none := rfl
@[local simp] theorem isv_list_none  : isV .list .none = some false := rfl
@[local simp] theorem isv_list_bool {b : Bool} : isV .list (.bool b) = some false := rfl
@[local simp] theorem isv_list_int {i : Int} : isV .list (.int i) = some false := rfl
@[local simp] theorem isv_list_str {s : Str} : isV .list (.str s) = some false := rfl
@[local simp] theorem isv_list_tup {vs : List V} : isV .list (.tup vs) = some false := rfl
@[local simp] theorem isv_list_lst {vs : List V} : isV .list (.lst vs) = some true := rfl
@[local simp] theorem isv_list_ref {a : Nat} : isV .list (.ref a) = Option.none := rfl
@[local simp] theorem isv_list_inst {c : Nat} {ns : List String} {vs : List V} : isV .list (.inst c ns vs) = Option.none := rfl
@[local simp] theorem isv_list_iref {c : Nat} {ns : List String} {a : Nat} : isV .list (.iref c ns a) = Option.none := rfl
theorem isv_own_none {cc : String}  : isV (.own cc) .none = Option.none := rfl
theorem isv_ve_none  : isV .ValueError .none = Option.none := rfl
theorem isv_own_bool {cc : String} {b : Bool} : isV (.own cc) (.bool b) = Option.none := rfl
theorem isv_ve_bool {b : Bool} : isV .ValueError (.bool b) = Option.none := rfl
theorem isv_own_int {cc : String} {i : Int} : isV (.own cc) (.int i) = Option.none := rfl
theorem isv_ve_int {i : Int} : isV .ValueError (.int i) = Option.none := rfl
theorem isv_own_str {cc : String} {s : Str} : isV (.own cc) (.str s) = Option.none := rfl
theorem isv_ve_str {s : Str} : isV .ValueError (.str s) = Option.none := rfl
theorem isv_own_tup {cc : String} {vs : List V} : isV (.own cc) (.tup vs) = Option.none := rfl
theorem isv_ve_tup {vs : List V} : isV .ValueError (.tup vs) = Option.none := rfl
theorem isv_own_lst {cc : String} {vs : List V} : isV (.own cc) (.lst vs) = Option.none := rfl
theorem isv_ve_lst {vs : List V} : isV .ValueError (.lst vs) = Option.none := rfl
theorem isv_own_ref {cc : String} {a : Nat} : isV (.own cc) (.ref a) = Option.none := rfl
theorem isv_ve_ref {a : Nat} : isV .ValueError (.ref a) = Option.none := rfl
theorem isv_own_inst {cc : String} {c : Nat} {ns : List String} {vs : List V} : isV (.own cc) (.inst c ns vs) = Option.none := rfl
theorem isv_ve_inst {c : Nat} {ns : List String} {vs : List V} : isV .ValueError (.inst c ns vs) = Option.none := rfl
theorem isv_own_iref {cc : String} {c : Nat} {ns : List String} {a : Nat} : isV (.own cc) (.iref c ns a) = Option.none := rfl
theorem isv_ve_iref {c : Nat} {ns : List String} {a : Nat} : isV .ValueError (.iref c ns a) = Option.none := rfl
@[local simp] theorem fz_zero {H B : AH} {v : V} : frz H B 0 v = Option.none := rfl
@[local simp] theorem fz_none {H B : AH} {n : Nat}  : frz H B (n + 1) .none = some .none := rfl
@[local simp] theorem fz_bool {H B : AH} {n : Nat} {b : Bool} : frz H B (n + 1) (.bool b) = some (.bool b) := rfl
@[local simp] theorem fz_int {H B : AH} {n : Nat} {i : Int} : frz H B (n + 1) (.int i) = some (.int i) := rfl
@[local simp] theorem fz_str {H B : AH} {n : Nat} {s : Str} : frz H B (n + 1) (.str s) = some (.str s) := rfl
@[local simp] theorem fz_tup {H B : AH} {n : Nat} {vs : List V} : frz H B (n + 1) (.tup vs) = (frzs H B n vs).map .tup := rfl
@[local simp] theorem fz_lst {H B : AH} {n : Nat} {vs : List V} : frz H B (n + 1) (.lst vs) = (frzs H B n vs).map .lst := rfl
@[local simp] theorem fz_inst {H B : AH} {n : Nat} {c : Nat} {ns : List String} {vs : List V} : frz H B (n + 1) (.inst c ns vs) = (frzs H B n vs).map (.inst c ns) := rfl
@[local simp] theorem fz_ref {H B : AH} {n : Nat} {a : Nat} : frz H B (n + 1) (.ref a) = (match B a with
      | some _ => some (.ref a)
      | Option.none => (match H a with
        | some (.list vs) => (frzs H B n vs).map .lst
        | _ => Option.none)) := rfl
@[local simp] theorem fz_iref {H B : AH} {n : Nat} {c : Nat} {ns : List String} {a : Nat} : frz H B (n + 1) (.iref c ns a) = (match B a with
      | some _ => some (.iref c ns a)
      | Option.none => (match H a with
        | some (.inst _ ns' vs) => if ns' = ns then (frzs H B n vs).map (.inst c ns) else Option.none
        | _ => Option.none)) := rfl
@[local simp] theorem fzs_nil {H B : AH} {n : Nat} : frzs H B n [] = some [] := rfl
@[local simp] theorem fzs_cons {H B : AH} {n : Nat} {v : V} {vs : List V} : frzs H B n (v :: vs) = (match frz H B n v, frzs H B n vs with
    | some x, some xs => some (x :: xs)
    | _, _ => Option.none) := rfl
@[local simp] theorem sa_nil {ρ : List (Option V)} : setAll [] [] ρ = some ρ := rfl
theorem sa_cons {i : Nat} {is : List Nat} {v : V} {vs : List V} {ρ : List (Option V)} : setAll (i :: is) (v :: vs) ρ = (if i < ρ.length then setAll is vs (ρ.set i (some v)) else Option.none) := by
  show (match putV i v ρ with
    | some ρ' => setAll is vs ρ'
    | Option.none => Option.none) = _
  unfold putV
  by_cases h : i < ρ.length
  · rw [if_pos h, if_pos h]
  · rw [if_neg h, if_neg h]
theorem putV_inv {i : Nat} {v : V} {ρ : List (Option V)} {P : List (Option V) → Prop} (h : match putV i v ρ with
    | some ρ' => P ρ'
    | Option.none => False) : i < ρ.length ∧ P (ρ.set i (some v)) := by
  unfold putV at h
  by_cases hi : i < ρ.length
  · rw [if_pos hi] at h; exact ⟨hi, h⟩
  · rw [if_neg hi] at h; exact False.elim h
/-- what a call asks of its body's end -/
def PK (H : AH) (Q : V → Prop) (fl : Fl) (st : St) : Prop := match fl with
  | .ret v => (match frz st.H H 8 v with
    | some v' => Q v'
    | Option.none => False)
  | .next => Q .none
  | _ => False
@[local simp] theorem pk_ret {H : AH} {Q : V → Prop} {v : V} {st : St} : PK H Q (.ret v) st = (match frz st.H H 8 v with
    | some v' => Q v'
    | Option.none => False) := rfl
@[local simp] theorem pk_next {H : AH} {Q : V → Prop} {st : St} : PK H Q .next st = Q .none := rfl
@[local simp] theorem sa_step {i : Nat} {is : List Nat} {v : V} {vs : List V} {ρ : List (Option V)} : setAll (i :: is) (v :: vs) ρ = (match putV i v ρ with
    | some ρ' => setAll is vs ρ'
    | Option.none => Option.none) := rfl
@[local simp] theorem lv_0 {C : Cx} {H B : AH} {Q : V → Prop} {X : String → Prop} {v : V} {ρ : List (Option V)} : WE C (.var 0) ⟨some v :: ρ, H, B⟩ Q X = Q v := rfl
@[local simp] theorem lp_0 {y : Option V} {v : V} {ρ : List (Option V)} : putV 0 v (y :: ρ) = some (some v :: ρ) := rfl
@[local simp] theorem lv_1 {C : Cx} {H B : AH} {Q : V → Prop} {X : String → Prop} {x0 : Option V} {v : V} {ρ : List (Option V)} : WE C (.var 1) ⟨x0 :: some v :: ρ, H, B⟩ Q X = Q v := rfl
@[local simp] theorem lp_1 {x0 : Option V} {y : Option V} {v : V} {ρ : List (Option V)} : putV 1 v (x0 :: y :: ρ) = some (x0 :: some v :: ρ) := rfl
@[local simp] theorem lv_2 {C : Cx} {H B : AH} {Q : V → Prop} {X : String → Prop} {x0 x1 : Option V} {v : V} {ρ : List (Option V)} : WE C (.var 2) ⟨x0 :: x1 :: some v :: ρ, H, B⟩ Q X = Q v := rfl
@[local simp] theorem lp_2 {x0 x1 : Option V} {y : Option V} {v : V} {ρ : List (Option V)} : putV 2 v (x0 :: x1 :: y :: ρ) = some (x0 :: x1 :: some v :: ρ) := rfl
@[local simp] theorem lv_3 {C : Cx} {H B : AH} {Q : V → Prop} {X : String → Prop} {x0 x1 x2 : Option V} {v : V} {ρ : List (Option V)} : WE C (.var 3) ⟨x0 :: x1 :: x2 :: some v :: ρ, H, B⟩ Q X = Q v := rfl
@[local simp] theorem lp_3 {x0 x1 x2 : Option V} {y : Option V} {v : V} {ρ : List (Option V)} : putV 3 v (x0 :: x1 :: x2 :: y :: ρ) = some (x0 :: x1 :: x2 :: some v :: ρ) := rfl
@[local simp] theorem lv_4 {C : Cx} {H B : AH} {Q : V → Prop} {X : String → Prop} {x0 x1 x2 x3 : Option V} {v : V} {ρ : List (Option V)} : WE C (.var 4) ⟨x0 :: x1 :: x2 :: x3 :: some v :: ρ, H, B⟩ Q X = Q v := rfl
@[local simp] theorem lp_4 {x0 x1 x2 x3 : Option V} {y : Option V} {v : V} {ρ : List (Option V)} : putV 4 v (x0 :: x1 :: x2 :: x3 :: y :: ρ) = some (x0 :: x1 :: x2 :: x3 :: some v :: ρ) := rfl
@[local simp] theorem lv_5 {C : Cx} {H B : AH} {Q : V → Prop} {X : String → Prop} {x0 x1 x2 x3 x4 : Option V} {v : V} {ρ : List (Option V)} : WE C (.var 5) ⟨x0 :: x1 :: x2 :: x3 :: x4 :: some v :: ρ, H, B⟩ Q X = Q v := rfl
@[local simp] theorem lp_5 {x0 x1 x2 x3 x4 : Option V} {y : Option V} {v : V} {ρ : List (Option V)} : putV 5 v (x0 :: x1 :: x2 :: x3 :: x4 :: y :: ρ) = some (x0 :: x1 :: x2 :: x3 :: x4 :: some v :: ρ) := rfl
@[local simp] theorem lv_6 {C : Cx} {H B : AH} {Q : V → Prop} {X : String → Prop} {x0 x1 x2 x3 x4 x5 : Option V} {v : V} {ρ : List (Option V)} : WE C (.var 6) ⟨x0 :: x1 :: x2 :: x3 :: x4 :: x5 :: some v :: ρ, H, B⟩ Q X = Q v := rfl
@[local simp] theorem lp_6 {x0 x1 x2 x3 x4 x5 : Option V} {y : Option V} {v : V} {ρ : List (Option V)} : putV 6 v (x0 :: x1 :: x2 :: x3 :: x4 :: x5 :: y :: ρ) = some (x0 :: x1 :: x2 :: x3 :: x4 :: x5 :: some v :: ρ) := rfl
@[local simp] theorem lv_7 {C : Cx} {H B : AH} {Q : V → Prop} {X : String → Prop} {x0 x1 x2 x3 x4 x5 x6 : Option V} {v : V} {ρ : List (Option V)} : WE C (.var 7) ⟨x0 :: x1 :: x2 :: x3 :: x4 :: x5 :: x6 :: some v :: ρ, H, B⟩ Q X = Q v := rfl
@[local simp] theorem lp_7 {x0 x1 x2 x3 x4 x5 x6 : Option V} {y : Option V} {v : V} {ρ : List (Option V)} : putV 7 v (x0 :: x1 :: x2 :: x3 :: x4 :: x5 :: x6 :: y :: ρ) = some (x0 :: x1 :: x2 :: x3 :: x4 :: x5 :: x6 :: some v :: ρ) := rfl
@[local simp] theorem lv_8 {C : Cx} {H B : AH} {Q : V → Prop} {X : String → Prop} {x0 x1 x2 x3 x4 x5 x6 x7 : Option V} {v : V} {ρ : List (Option V)} : WE C (.var 8) ⟨x0 :: x1 :: x2 :: x3 :: x4 :: x5 :: x6 :: x7 :: some v :: ρ, H, B⟩ Q X = Q v := rfl
@[local simp] theorem lp_8 {x0 x1 x2 x3 x4 x5 x6 x7 : Option V} {y : Option V} {v : V} {ρ : List (Option V)} : putV 8 v (x0 :: x1 :: x2 :: x3 :: x4 :: x5 :: x6 :: x7 :: y :: ρ) = some (x0 :: x1 :: x2 :: x3 :: x4 :: x5 :: x6 :: x7 :: some v :: ρ) := rfl
@[local simp] theorem lv_9 {C : Cx} {H B : AH} {Q : V → Prop} {X : String → Prop} {x0 x1 x2 x3 x4 x5 x6 x7 x8 : Option V} {v : V} {ρ : List (Option V)} : WE C (.var 9) ⟨x0 :: x1 :: x2 :: x3 :: x4 :: x5 :: x6 :: x7 :: x8 :: some v :: ρ, H, B⟩ Q X = Q v := rfl
@[local simp] theorem lp_9 {x0 x1 x2 x3 x4 x5 x6 x7 x8 : Option V} {y : Option V} {v : V} {ρ : List (Option V)} : putV 9 v (x0 :: x1 :: x2 :: x3 :: x4 :: x5 :: x6 :: x7 :: x8 :: y :: ρ) = some (x0 :: x1 :: x2 :: x3 :: x4 :: x5 :: x6 :: x7 :: x8 :: some v :: ρ) := rfl
@[local simp] theorem lv_10 {C : Cx} {H B : AH} {Q : V → Prop} {X : String → Prop} {x0 x1 x2 x3 x4 x5 x6 x7 x8 x9 : Option V} {v : V} {ρ : List (Option V)} : WE C (.var 10) ⟨x0 :: x1 :: x2 :: x3 :: x4 :: x5 :: x6 :: x7 :: x8 :: x9 :: some v :: ρ, H, B⟩ Q X = Q v := rfl
@[local simp] theorem lp_10 {x0 x1 x2 x3 x4 x5 x6 x7 x8 x9 : Option V} {y : Option V} {v : V} {ρ : List (Option V)} : putV 10 v (x0 :: x1 :: x2 :: x3 :: x4 :: x5 :: x6 :: x7 :: x8 :: x9 :: y :: ρ) = some (x0 :: x1 :: x2 :: x3 :: x4 :: x5 :: x6 :: x7 :: x8 :: x9 :: some v :: ρ) := rfl
@[local simp] theorem lv_11 {C : Cx} {H B : AH} {Q : V → Prop} {X : String → Prop} {x0 x1 x2 x3 x4 x5 x6 x7 x8 x9 x10 : Option V} {v : V} {ρ : List (Option V)} : WE C (.var 11) ⟨x0 :: x1 :: x2 :: x3 :: x4 :: x5 :: x6 :: x7 :: x8 :: x9 :: x10 :: some v :: ρ, H, B⟩ Q X = Q v := rfl
@[local simp] theorem lp_11 {x0 x1 x2 x3 x4 x5 x6 x7 x8 x9 x10 : Option V} {y : Option V} {v : V} {ρ : List (Option V)} : putV 11 v (x0 :: x1 :: x2 :: x3 :: x4 :: x5 :: x6 :: x7 :: x8 :: x9 :: x10 :: y :: ρ) = some (x0 :: x1 :: x2 :: x3 :: x4 :: x5 :: x6 :: x7 :: x8 :: x9 :: x10 :: some v :: ρ) := rfl
@[local simp] theorem lv_12 {C : Cx} {H B : AH} {Q : V → Prop} {X : String → Prop} {x0 x1 x2 x3 x4 x5 x6 x7 x8 x9 x10 x11 : Option V} {v : V} {ρ : List (Option V)} : WE C (.var 12) ⟨x0 :: x1 :: x2 :: x3 :: x4 :: x5 :: x6 :: x7 :: x8 :: x9 :: x10 :: x11 :: some v :: ρ, H, B⟩ Q X = Q v := rfl
@[local simp] theorem lp_12 {x0 x1 x2 x3 x4 x5 x6 x7 x8 x9 x10 x11 : Option V} {y : Option V} {v : V} {ρ : List (Option V)} : putV 12 v (x0 :: x1 :: x2 :: x3 :: x4 :: x5 :: x6 :: x7 :: x8 :: x9 :: x10 :: x11 :: y :: ρ) = some (x0 :: x1 :: x2 :: x3 :: x4 :: x5 :: x6 :: x7 :: x8 :: x9 :: x10 :: x11 :: some v :: ρ) := rfl
@[local simp] theorem lv_13 {C : Cx} {H B : AH} {Q : V → Prop} {X : String → Prop} {x0 x1 x2 x3 x4 x5 x6 x7 x8 x9 x10 x11 x12 : Option V} {v : V} {ρ : List (Option V)} : WE C (.var 13) ⟨x0 :: x1 :: x2 :: x3 :: x4 :: x5 :: x6 :: x7 :: x8 :: x9 :: x10 :: x11 :: x12 :: some v :: ρ, H, B⟩ Q X = Q v := rfl
@[local simp] theorem lp_13 {x0 x1 x2 x3 x4 x5 x6 x7 x8 x9 x10 x11 x12 : Option V} {y : Option V} {v : V} {ρ : List (Option V)} : putV 13 v (x0 :: x1 :: x2 :: x3 :: x4 :: x5 :: x6 :: x7 :: x8 :: x9 :: x10 :: x11 :: x12 :: y :: ρ) = some (x0 :: x1 :: x2 :: x3 :: x4 :: x5 :: x6 :: x7 :: x8 :: x9 :: x10 :: x11 :: x12 :: some v :: ρ) := rfl
@[local simp] theorem lb_var {i : Nat} {v : V} {ρ : List (Option V)} : bindT (.var i) v ρ = putV i v ρ := rfl
@[local simp] theorem ls_0 {H : AH} {Q : V → Prop} {x y : V} : subV H (.tup [x, y]) (.int 0) Q = Q x := rfl
@[local simp] theorem ls_1 {H : AH} {Q : V → Prop} {x y : V} : subV H (.tup [x, y]) (.int 1) Q = Q y := rfl
@[local simp] theorem sa_l {v : V} {vs : List V} {ρ : List (Option V)} : setAll [] (v :: vs) ρ = Option.none := rfl
@[local simp] theorem sa_r {i : Nat} {is : List Nat} {ρ : List (Option V)} : setAll (i :: is) [] ρ = Option.none := rfl
theorem bd_var {i : Nat} {v : V} {ρ : List (Option V)} : bindT (.var i) v ρ = (if i < ρ.length then some (ρ.set i (some v)) else Option.none) := rfl
@[local simp] theorem bd_tup {is : List Nat} {vs : List V} {ρ : List (Option V)} : bindT (.tup is) (.tup vs) ρ = setAll is vs ρ := rfl
@[local simp] theorem bd_none {is : List Nat}  {ρ : List (Option V)} : bindT (.tup is) .none ρ = Option.none := rfl
@[local simp] theorem bd_bool {is : List Nat} {b : Bool} {ρ : List (Option V)} : bindT (.tup is) (.bool b) ρ = Option.none := rfl
@[local simp] theorem bd_int {is : List Nat} {i : Int} {ρ : List (Option V)} : bindT (.tup is) (.int i) ρ = Option.none := rfl
@[local simp] theorem bd_str {is : List Nat} {s : Str} {ρ : List (Option V)} : bindT (.tup is) (.str s) ρ = Option.none := rfl
@[local simp] theorem bd_lst {is : List Nat} {vs : List V} {ρ : List (Option V)} : bindT (.tup is) (.lst vs) ρ = Option.none := rfl
@[local simp] theorem bd_ref {is : List Nat} {a : Nat} {ρ : List (Option V)} : bindT (.tup is) (.ref a) ρ = Option.none := rfl
@[local simp] theorem bd_inst {is : List Nat} {c : Nat} {ns : List String} {vs : List V} {ρ : List (Option V)} : bindT (.tup is) (.inst c ns vs) ρ = Option.none := rfl
@[local simp] theorem bd_iref {is : List Nat} {c : Nat} {ns : List String} {a : Nat} {ρ : List (Option V)} : bindT (.tup is) (.iref c ns a) ρ = Option.none := rfl
@[local simp] theorem bn_none {n d : Nat} : bnd n d .none = some d := rfl
@[local simp] theorem bn_int {n d : Nat} {i : Int} : bnd n d (.int i) = some (clip n i) := rfl
@[local simp] theorem bn_bool {n d : Nat} {b : Bool} : bnd n d (.bool b) = Option.none := rfl
@[local simp] theorem bn_str {n d : Nat} {s : Str} : bnd n d (.str s) = Option.none := rfl
@[local simp] theorem bn_tup {n d : Nat} {vs : List V} : bnd n d (.tup vs) = Option.none := rfl
@[local simp] theorem bn_lst {n d : Nat} {vs : List V} : bnd n d (.lst vs) = Option.none := rfl
@[local simp] theorem bn_ref {n d : Nat} {a : Nat} : bnd n d (.ref a) = Option.none := rfl
@[local simp] theorem bn_inst {n d : Nat} {c : Nat} {ns : List String} {vs : List V} : bnd n d (.inst c ns vs) = Option.none := rfl
@[local simp] theorem bn_iref {n d : Nat} {c : Nat} {ns : List String} {a : Nat} : bnd n d (.iref c ns a) = Option.none := rfl
theorem io_nil  : intsOf [] = some [] := rfl
theorem so_nil  : strsOf [] = some [] := rfl
theorem io_none  {r : List V} : intsOf (.none :: r) = Option.none := rfl
theorem so_none  {r : List V} : strsOf (.none :: r) = Option.none := rfl
theorem io_bool {b : Bool} {r : List V} : intsOf ((.bool b) :: r) = Option.none := rfl
theorem so_bool {b : Bool} {r : List V} : strsOf ((.bool b) :: r) = Option.none := rfl
theorem io_int {i : Int} {r : List V} : intsOf ((.int i) :: r) = (intsOf r).map (i :: ·) := rfl
theorem so_int {i : Int} {r : List V} : strsOf ((.int i) :: r) = Option.none := rfl
theorem io_str {s : Str} {r : List V} : intsOf ((.str s) :: r) = Option.none := rfl
theorem so_str {s : Str} {r : List V} : strsOf ((.str s) :: r) = (strsOf r).map (s :: ·) := rfl
theorem io_tup {ws : List V} {r : List V} : intsOf ((.tup ws) :: r) = Option.none := rfl
theorem so_tup {ws : List V} {r : List V} : strsOf ((.tup ws) :: r) = Option.none := rfl
theorem io_lst {ws : List V} {r : List V} : intsOf ((.lst ws) :: r) = Option.none := rfl
theorem so_lst {ws : List V} {r : List V} : strsOf ((.lst ws) :: r) = Option.none := rfl
theorem io_ref {a : Nat} {r : List V} : intsOf ((.ref a) :: r) = Option.none := rfl
theorem so_ref {a : Nat} {r : List V} : strsOf ((.ref a) :: r) = Option.none := rfl
theorem io_inst {c : Nat} {ns : List String} {ws : List V} {r : List V} : intsOf ((.inst c ns ws) :: r) = Option.none := rfl
theorem so_inst {c : Nat} {ns : List String} {ws : List V} {r : List V} : strsOf ((.inst c ns ws) :: r) = Option.none := rfl
theorem io_iref {c : Nat} {ns : List String} {a : Nat} {r : List V} : intsOf ((.iref c ns a) :: r) = Option.none := rfl
theorem so_iref {c : Nat} {ns : List String} {a : Nat} {r : List V} : strsOf ((.iref c ns a) :: r) = Option.none := rfl
theorem la_nil  : lenAll [] = 0 := rfl
theorem la_cons {s : Str} {r : List Str} : lenAll (s :: r) = s.length + lenAll r := rfl
theorem cl_nil {f : V → (Option V → Prop) → Prop} {Q : List V → Prop} : compL f [] Q = Q [] := rfl
theorem cl_cons {f : V → (Option V → Prop) → Prop} {Q : List V → Prop} {x : V} {xs : List V} : compL f (x :: xs) Q = f x fun r => compL f xs fun ys => Q (match r with
    | some y => y :: ys
    | Option.none => ys) := rfl
@[local simp] theorem bv_add {H : AH} {Q : V → Prop} {i j : Int} : binV H .add (.int i) (.int j) Q = Q (.int (i + j)) := rfl
@[local simp] theorem bv_adds {H : AH} {Q : V → Prop} {s t : Str} : binV H .add (.str s) (.str t) Q = (s.length + t.length ≤ sizeLine ∧ Q (.str (s ++ t))) := rfl
@[local simp] theorem bv_addl {H : AH} {Q : V → Prop} {x y : List V} : binV H .add (.lst x) (.lst y) Q = (x.length + y.length ≤ sizeLine ∧ Q (.lst (x ++ y))) := rfl
@[local simp] theorem bv_sub {H : AH} {Q : V → Prop} {i j : Int} : binV H .sub (.int i) (.int j) Q = Q (.int (i - j)) := rfl
@[local simp] theorem bv_mul {H : AH} {Q : V → Prop} {i j : Int} : binV H .mul (.int i) (.int j) Q = ((i.natAbs < 2 ^ 62 ∨ j.natAbs < 2 ^ 62) ∧ Q (.int (i * j))) := rfl
@[local simp] theorem bv_fdiv {H : AH} {Q : V → Prop} {i j : Int} : binV H .fdiv (.int i) (.int j) Q = (j ≠ 0 ∧ Q (.int (i.fdiv j))) := rfl
@[local simp] theorem bv_mod {H : AH} {Q : V → Prop} {i j : Int} : binV H .mod (.int i) (.int j) Q = (j ≠ 0 ∧ Q (.int (i.fmod j))) := rfl
@[local simp] theorem bv_mull {H : AH} {Q : V → Prop} {vs : List V} {n : Int} : binV H .mul (.lst vs) (.int n) Q = (-(2 ^ 62) ≤ n ∧ n < 2 ^ 62 ∧ vs.length * n.toNat ≤ sizeLine ∧ Q (.lst (repL n.toNat vs))) := rfl
@[local simp] theorem bv_muls {H : AH} {Q : V → Prop} {s : Str} {n : Int} : binV H .mul (.str s) (.int n) Q = (0 ≤ n ∧ n < 2 ^ 30 ∧ s.length * n.toNat ≤ sizeLine ∧ Q (.str ⟨(repL n.toNat s.cps.toList).toArray⟩)) := rfl
@[local simp] theorem cv_eq {H : AH} {Q : Bool → Prop} {a b : V} : cmpV H .eq a b Q = eqV H a b Q := rfl
@[local simp] theorem cv_ne {H : AH} {Q : Bool → Prop} {a b : V} : cmpV H .ne a b Q = eqV H a b fun r => Q (!r) := rfl
@[local simp] theorem cv_lt {H : AH} {Q : Bool → Prop} {i j : Int} : cmpV H .lt (.int i) (.int j) Q = Q (decide (i < j)) := rfl
@[local simp] theorem cv_le {H : AH} {Q : Bool → Prop} {i j : Int} : cmpV H .le (.int i) (.int j) Q = Q (decide (i ≤ j)) := rfl
@[local simp] theorem cv_gt {H : AH} {Q : Bool → Prop} {i j : Int} : cmpV H .gt (.int i) (.int j) Q = Q (decide (i > j)) := rfl
@[local simp] theorem cv_ge {H : AH} {Q : Bool → Prop} {i j : Int} : cmpV H .ge (.int i) (.int j) Q = Q (decide (i ≥ j)) := rfl
@[local simp] theorem cv_isin {H : AH} {Q : Bool → Prop} {a b : V} : cmpV H .isin a b Q = inV H a b Q := rfl
@[local simp] theorem cv_notin {H : AH} {Q : Bool → Prop} {a b : V} : cmpV H .notin a b Q = inV H a b fun r => Q (!r) := rfl
theorem in_str {H : AH} {Q : Bool → Prop} {s t : Str} : inV H (.str t) (.str s) Q = Q (hasSub s t) := rfl
@[local simp] theorem sb_tup {H : AH} {Q : V → Prop} {vs : List V} {i : Int} : subV H (.tup vs) (.int i) Q = (match idx vs.length i with
    | some n => (match vs[n]? with
      | some v => Q v
      | Option.none => False)
    | Option.none => False) := rfl
@[local simp] theorem sb_lst {H : AH} {Q : V → Prop} {vs : List V} {i : Int} : subV H (.lst vs) (.int i) Q = (match idx vs.length i with
    | some n => (match vs[n]? with
      | some v => Q v
      | Option.none => False)
    | Option.none => False) := rfl
@[local simp] theorem sb_str {H : AH} {Q : V → Prop} {s : Str} {i : Int} : subV H (.str s) (.int i) Q = (match idx s.length i with
    | some n => (match s.cps.toList[n]? with
      | some v => Q (.str ⟨#[v]⟩)
      | Option.none => False)
    | Option.none => False) := rfl
@[local simp] theorem sb_ref {H : AH} {Q : V → Prop} {a : Nat} {k : V} : subV H (.ref a) k Q = (match H a with
    | some (.dict kvs) => keyP k fun ks => (match dlook ks kvs with
      | some v => Q v
      | Option.none => False)
    | some (.list vs) => (match k with
      | .int i => (match idx vs.length i with
        | some n => (match vs[n]? with
          | some v => Q v
          | Option.none => False)
        | Option.none => False)
      | _ => False)
    | _ => False) := rfl
@[local simp] theorem sl_str {H : AH} {Q : V → Prop} {s : Str} {lo hi : V} : sliceV H (.str s) lo hi Q = (match bnd s.length 0 lo, bnd s.length s.length hi with
    | some l, some h => Q (.str ⟨(cutL s.cps.toList l h).toArray⟩)
    | _, _ => False) := rfl
@[local simp] theorem sl_lst {H : AH} {Q : V → Prop} {vs : List V} {lo hi : V} : sliceV H (.lst vs) lo hi Q = (match bnd vs.length 0 lo, bnd vs.length vs.length hi with
    | some l, some h => Q (.lst (cutL vs l h))
    | _, _ => False) := rfl
theorem fl_nil {t : Tg} {W : St → (Fl → St → Prop) → Prop} {Q : Fl → St → Prop} {st : St} : forL t W Q [] st = Q .next st := rfl
theorem fl_cons {t : Tg} {W : St → (Fl → St → Prop) → Prop} {Q : Fl → St → Prop} {st : St} {x : V} {xs : List V} : forL t W Q (x :: xs) st = (match bindT t x st.ρ with
    | some ρ' => W { st with ρ := ρ' } (fun f st' => match f with
      | .next | .cont => forL t W Q xs st'
      | .brk => Q .next st'
      | .ret v => Q (.ret v) st')
    | Option.none => False) := rfl
theorem wn_zero {T : St → (Bool → Prop) → Prop} {W : St → (Fl → St → Prop) → Prop} {Q : Fl → St → Prop} {st : St} : whileN T W Q 0 st = False := rfl
theorem wn_succ {T : St → (Bool → Prop) → Prop} {W : St → (Fl → St → Prop) → Prop} {Q : Fl → St → Prop} {st : St} {n : Nat} : whileN T W Q (n + 1) st = (T st fun b => if b then W st (fun f st' => match f with
      | .next | .cont => whileN T W Q n st'
      | .brk => Q .next st'
      | .ret v => Q (.ret v) st') else Q .next st) := rfl
@[local simp] theorem stv {H B : AH} {ad : Nat} {i : Int} {P : Nat → List V → Nat → Prop} : setV H B (.ref ad) (.int i) P = (B ad = Option.none ∧ 0 ≤ i ∧ ∃ vs, H ad = some (.list vs) ∧ i < vs.length ∧ P ad vs i.toNat) := rfl
@[local simp] theorem i2r {i j : Int} {P : Int → Int → Prop} : int2 [.int i, .int j] P = P i j := rfl
@[local simp] theorem s1r {H : AH} {vs : List V} {P : Int → Prop} : sum1 H [.lst vs] P = intsP vs fun is => P is.sum := rfl
@[local simp] theorem rg1 {i : Int} {P : Int → Prop} : rng1 [.int i] P = (smallI i ∧ P i) := rfl
@[local simp] theorem rg2 {i j : Int} {P : Int → Int → Prop} : rng2 [.int i, .int j] P = (smallI i ∧ smallI j ∧ P i j) := rfl
@[local simp] theorem rg3 {i j k : Int} {P : Int → Int → Int → Prop} : rng3 [.int i, .int j, .int k] P = (smallI i ∧ smallI j ∧ P i j k) := rfl
@[local simp] theorem rp_lst {H : AH} {vs : List V} {P : List V → Prop} : rowP H (.lst vs) P = P vs := rfl
@[local simp] theorem rp_tup {H : AH} {vs : List V} {P : List V → Prop} : rowP H (.tup vs) P = P vs := rfl
@[local simp] theorem sqp_lst {H : AH} {vs : List V} {P : List V → Prop} : seqP H (.lst vs) P = P vs := rfl
@[local simp] theorem ip_int {i : Int} {P : Int → Prop} : intP (.int i) P = P i := rfl
@[local simp] theorem iov_str {s : Str} {Q : V → Prop} : intOfV (.str s) Q = (allDigits s.cps.toList = true ∧ 0 < s.length ∧ s.length ≤ 100 ∧ Q (.int (digitsVal s.cps.toList))) := rfl
@[local simp] theorem iov_bool {b : Bool} {Q : V → Prop} : intOfV (.bool b) Q = Q (.int (if b then 1 else 0)) := rfl
theorem dp_none  : PyData.depth .none = 0 := rfl
theorem dp_int {i : Int} : PyData.depth (.int i) = 0 := rfl
theorem dp_bool {b : Bool} : PyData.depth (.bool b) = 0 := rfl
theorem dp_str {s : Str} : PyData.depth (.str s) = 0 := rfl
theorem dp_list {xs : List PyData} : PyData.depth (.list xs) = PyData.depthAll xs + 1 := rfl
theorem dp_tup {xs : List PyData} : PyData.depth (.tuple xs) = PyData.depthAll xs + 1 := rfl
theorem da_nil  : PyData.depthAll [] = 0 := rfl
theorem da_cons {x : PyData} {xs : List PyData} : PyData.depthAll (x :: xs) = max (PyData.depth x) (PyData.depthAll xs) := rfl
theorem ev_int {i j : Int} : PyData.eqv (.int i) (.int j) = (i == j) := rfl
theorem ev_str {s t : Str} : PyData.eqv (.str s) (.str t) = (s == t) := rfl
theorem ev_bool {b c : Bool} : PyData.eqv (.bool b) (.bool c) = (b == c) := rfl
theorem ev_none  : PyData.eqv .none .none = true := rfl
theorem ev_list {x y : List PyData} : PyData.eqv (.list x) (.list y) = PyData.eqvAll x y := rfl
theorem ev_tup {x y : List PyData} : PyData.eqv (.tuple x) (.tuple y) = PyData.eqvAll x y := rfl
theorem ea_nil  : PyData.eqvAll [] [] = true := rfl
theorem ea_cons {a b : PyData} {x y : List PyData} : PyData.eqvAll (a :: x) (b :: y) = (PyData.eqv a b && PyData.eqvAll x y) := rfl

section
set_option linter.unusedSimpArgs false
set_option autoImplicit false
namespace Lib
open PySem Mine

noncomputable def F_is_whole : Fn := ⟨1, ["thing"], 1,
  (.cons (.ret (.and (.isinst (.var 0) .int) (.not (.isinst (.var 0) .bool))))
  .nil)⟩
noncomputable def F_is_text : Fn := ⟨1, ["thing", "sign"], 2,
  (.cons (.ite (.not (.isinst (.var 0) .str)) (.cons (.ret (.bool false))
    .nil) .nil)
  (.cons (.for (.var 1) (.seq (.var 0)) (.cons (.ite (.cmp (.var 1) (.one .notin (.glob "SIGNS"))) (.cons (.ret (.bool false))
      .nil) .nil)
    .nil))
  (.cons (.ret (.bool true))
  .nil)))⟩
noncomputable def F_is_symbol : Fn := ⟨2, ["thing", "below"], 2,
  (.cons (.ite (.call "is_whole" (.cons (.var 0) .nil)) (.cons (.ret (.cmp (.int 0) (.more .le (.var 0) (.one .lt (.var 1)))))
    .nil) .nil)
  (.cons (.ret (.and (.call "is_text" (.cons (.var 0) .nil)) (.cmp (.len (.var 0)) (.one .eq (.int 1)))))
  .nil))⟩
noncomputable def F_is_rule : Fn := ⟨2, ["rule", "number"], 2,
  (.cons (.ite (.or (.not (.isinst (.var 0) .tuple)) (.cmp (.len (.var 0)) (.one .ne (.int 2)))) (.cons (.ret (.bool false))
    .nil) .nil)
  (.cons (.ret (.and (.call "is_symbol" (.cons (.sub (.var 0) (.int 0)) (.cons (.var 1) .nil))) (.call "is_symbol" (.cons (.sub (.var 0) (.int 1)) (.cons (.var 1) .nil)))))
  .nil))⟩
noncomputable def F_need_book : Fn := ⟨1, ["book", "rules", "row", "number", "symbol"], 5,
  (.cons (.ite (.or (.not (.isinst (.var 0) .tuple)) (.cmp (.len (.var 0)) (.one .ne (.int 2)))) (.cons (.raise "NoBook" (.str (Str.ofString "no pair")))
    .nil) .nil)
  (.cons (.assign (.var 1) (.sub (.var 0) (.int 0)))
  (.cons (.assign (.var 2) (.sub (.var 0) (.int 1)))
  (.cons (.ite (.or (.not (.isinst (.var 1) .list)) (.not (.isinst (.var 2) .list))) (.cons (.raise "NoBook" (.str (Str.ofString "no two lists")))
    .nil) .nil)
  (.cons (.ite (.or (.cmp (.len (.var 1)) (.one .gt (.glob "MOST_RULES"))) (.cmp (.len (.var 2)) (.one .gt (.glob "MOST_ROW")))) (.cons (.raise "NoBook" (.str (Str.ofString "too long")))
    .nil) .nil)
  (.cons (.for (.var 3) (.range1 (.len (.var 1))) (.cons (.ite (.not (.call "is_rule" (.cons (.sub (.var 1) (.var 3)) (.cons (.var 3) .nil)))) (.cons (.raise "NoBook" (.str (Str.ofString "no rule")))
      .nil) .nil)
    .nil))
  (.cons (.for (.var 4) (.seq (.var 2)) (.cons (.ite (.not (.call "is_symbol" (.cons (.var 4) (.cons (.len (.var 1)) .nil)))) (.cons (.raise "NoBook" (.str (Str.ofString "no symbol")))
      .nil) .nil)
    .nil))
  (.cons (.ret (.var 0))
  .nil))))))))⟩
noncomputable def F_law_cell_at : Fn := ⟨2, ["_law_script", "_law_k"], 2,
  (.cons (.ite (.cmp (.var 1) (.one .lt (.len (.var 0)))) (.cons (.ret (.sub (.var 0) (.var 1)))
    .nil) .nil)
  (.cons (.ret (.int 0))
  .nil))⟩
noncomputable def F_law_sign_by : Fn := ⟨1, ["_law_cell", "_law_some"], 2,
  (.cons (.assign (.var 1) (.str (Str.ofString " !\"#$&'()*+,-./0123456789:;<=>?@ABCDEFGHIJKLMNOPQRSTUVWXYZ[\\]^_`")))
  (.cons (.assign (.var 1) (.bin .add (.var 1) (.str (Str.ofString "abcdefghijklmnopqrstuvwxyz{|}~\n"))))
  (.cons (.ret (.sub (.var 1) (.bin .mod (.var 0) (.int 95))))
  .nil)))⟩
noncomputable def F_law_symbol_by : Fn := ⟨3, ["_law_cell", "_law_many", "_law_first"], 3,
  (.cons (.ite (.or (.cmp (.var 1) (.one .eq (.int 0))) (.cmp (.bin .mod (.var 0) (.int 3)) (.one .eq (.int 0)))) (.cons (.ret (.call "_law_sign_by" (.cons (.bin .add (.var 2) (.bin .mul (.bin .mod (.bin .fdiv (.var 0) (.int 3)) (.int 3)) (.bin .add (.int 1) (.bin .mod (.bin .fdiv (.var 2) (.int 95)) (.int 94))))) .nil)))
    .nil) .nil)
  (.cons (.ite (.cmp (.bin .mod (.var 0) (.int 3)) (.one .eq (.int 1))) (.cons (.ret (.bin .sub (.var 1) (.int 1)))
    .nil) .nil)
  (.cons (.ret (.bin .mod (.bin .fdiv (.var 0) (.int 3)) (.var 1)))
  .nil)))⟩
noncomputable def F_law_book_by : Fn := ⟨2, ["_law_cells", "_law_first", "_law_rules", "_law_row", "_law_cell", "_law_one"], 6,
  (.cons (.own 2 (.list .nil))
  (.cons (.own 3 (.list .nil))
  (.cons (.for (.var 4) (.seq (.var 0)) (.cons (.ite (.cmp (.bin .mod (.var 4) (.int 3)) (.one .lt (.int 2))) (.cons (.assign (.var 5) (.call "_law_symbol_by" (.cons (.bin .fdiv (.var 4) (.int 3)) (.cons (.len (.var 2)) (.cons (.var 1) .nil)))))
      (.cons (.append (.var 2) (.pure (.tup (.cons (.var 5) (.cons (.call "_law_symbol_by" (.cons (.bin .fdiv (.var 4) (.int 47)) (.cons (.len (.var 2)) (.cons (.var 1) .nil)))) .nil)))))
      .nil)) (.cons (.append (.var 3) (.pure (.call "_law_symbol_by" (.cons (.bin .fdiv (.var 4) (.int 3)) (.cons (.len (.var 2)) (.cons (.var 1) .nil))))))
      .nil))
    .nil))
  (.cons (.ret (.tup (.cons (.var 2) (.cons (.var 3) .nil))))
  .nil))))⟩
noncomputable def F_law_small : Fn := ⟨2, ["_law_book", "_law_most", "_law_sizes", "_law_rules", "_law_row", "_law_left", "_law_symbol", "_law_one", "_law_other", "_law_size_here"], 10,
  (.cons (.own 2 (.list .nil))
  (.cons (.own 3 (.list .nil))
  (.cons (.for (.tup [7, 8]) (.seq (.sub (.var 0) (.int 0))) (.cons (.assign (.var 9) (.bin .add (.call "_law_size" (.cons (.var 7) (.cons (.var 2) .nil))) (.call "_law_size" (.cons (.var 8) (.cons (.var 2) .nil)))))
    (.cons (.ite (.cmp (.var 9) (.one .gt (.var 1))) (.cons (.assign (.tup [7, 8, 9]) (.tup (.cons (.str (Str.ofString "a")) (.cons (.str (Str.ofString "b")) (.cons (.int 2) .nil)))))
      .nil) .nil)
    (.cons (.append (.var 3) (.pure (.tup (.cons (.var 7) (.cons (.var 8) .nil)))))
    (.cons (.append (.var 2) (.pure (.var 9)))
    .nil)))))
  (.cons (.own 4 (.list .nil))
  (.cons (.assign (.var 5) (.bin .mul (.int 4) (.var 1)))
  (.cons (.for (.var 6) (.seq (.sub (.var 0) (.int 1))) (.cons (.ite (.cmp (.call "_law_size" (.cons (.var 6) (.cons (.var 2) .nil))) (.one .le (.var 5))) (.cons (.append (.var 4) (.pure (.var 6)))
      (.cons (.assign (.var 5) (.bin .sub (.var 5) (.call "_law_size" (.cons (.var 6) (.cons (.var 2) .nil)))))
      .nil)) .nil)
    .nil))
  (.cons (.ret (.tup (.cons (.var 3) (.cons (.var 4) .nil))))
  .nil)))))))⟩
noncomputable def F_law_size : Fn := ⟨2, ["_law_symbol", "_law_sizes"], 2,
  (.cons (.ite (.isinst (.var 0) .str) (.cons (.ret (.int 1))
    .nil) .nil)
  (.cons (.ret (.sub (.var 1) (.var 0)))
  .nil))⟩
noncomputable def F_law_told : Fn := ⟨1, ["_law_book", "_law_texts", "_law_pair"], 4,
  (.cons (.own 1 (.list .nil))
  (.cons (.for (.var 2) (.seq (.sub (.var 0) (.int 0))) (.cons (.append (.var 1) (.pure (.join (.str (Str.ofString "")) (.comp (.ite (.isinst (.var 3) .str) (.var 3) (.sub (.var 1) (.var 3))) (.var 3) (.seq (.var 2))))))
    .nil))
  (.cons (.ret (.join (.str (Str.ofString "")) (.comp (.ite (.isinst (.var 3) .str) (.var 3) (.sub (.var 1) (.var 3))) (.var 3) (.seq (.sub (.var 0) (.int 1))))))
  .nil)))⟩

noncomputable def SIGNS : Str := Str.ofString " !\"#$&'()*+,-./0123456789:;<=>?@ABCDEFGHIJKLMNOPQRSTUVWXYZ[\\]^_`abcdefghijklmnopqrstuvwxyz{|}~\n"
noncomputable def SG : List Nat := SIGNS.cps.toList

theorem call_of {tbl : Tbl} {gl : List (String × V)} {cls : Clss} {d : Nat} {f : String} {fn : Fn} {args : List V} {H : AH} {Q : V → Prop} {X : String → Prop} (h : tbl.lookup f = some fn) (h1 : args.length = fn.np) (h2 : fn.np ≤ fn.nv)
    (h3 : WB (cxN tbl gl cls d) fn.body ⟨args.map some ++ List.replicate (fn.nv - fn.np) none, H, H⟩ (PK H Q) (fun x _ => X x)) : (cxN tbl gl cls (d + 1)).call f args H Q X := by
  show callN tbl gl cls (d + 1) f args H Q X
  unfold callN
  rw [h]
  exact ⟨h1, h2, h3⟩

inductive Sy where
  | ch (c : Nat)
  | ru (k : Nat)
noncomputable def Sy.v : Sy → V
  | .ch c => .str ⟨#[c]⟩
  | .ru k => .int k
noncomputable def Sy.ok (n : Nat) : Sy → Prop
  | .ch c => c ∈ SG
  | .ru k => k < n
theorem Sy.ok.mono {n m : Nat} {s : Sy} (h : s.ok n) (hm : n ≤ m) : s.ok m := by
  cases s with
  | ch c => exact h
  | ru k => exact Nat.lt_of_lt_of_le h hm

theorem has_sign : ∀ c ∈ SG, hasSub SIGNS ⟨#[c]⟩ = true := by decide +kernel

theorem wb_cons {C : Cx} {s : S} {b : Bl} {st : St} {Q : Fl → St → Prop} {X : String → St → Prop} (h : WS C s st (fun f st' => match f with
    | .next => WB C b st' Q X
    | f => Q f st') X) : WB C (.cons s b) st Q X := h
theorem wb_nil {C : Cx} {st : St} {Q : Fl → St → Prop} {X : String → St → Prop} (h : Q .next st) : WB C .nil st Q X := h

theorem forL_ind {t : Tg} {W : St → (Fl → St → Prop) → Prop} {Q : Fl → St → Prop} (J : List V → St → Prop) (hstep : ∀ x xs st, (∀ st', J xs st' → forL t W Q xs st') → J (x :: xs) st → ∃ ρ', bindT t x st.ρ = some ρ' ∧ W { st with ρ := ρ' } (fun f st' => match f with
      | .next | .cont => forL t W Q xs st'
      | .brk => Q .next st'
      | .ret v => Q (.ret v) st')) (hend : ∀ st, J [] st → Q .next st) : ∀ xs st, J xs st → forL t W Q xs st
  | [], st, h => hend st h
  | x :: xs, st, h => by
    obtain ⟨ρ', hb, hw⟩ := hstep x xs st (forL_ind J hstep hend xs) h
    simp only [fl_nil, fl_cons, hb]
    exact hw

theorem idx_nat {n k : Nat} (h : k < n) : idx n (k : Int) = some k := by
  unfold idx
  rw [if_pos (by omega), if_pos (by omega)]
  simp
theorem idx_zero {n : Nat} (h : 0 < n) : idx n 0 = some 0 := idx_nat h
theorem idx_one {n : Nat} (h : 1 < n) : idx n 1 = some 1 := idx_nat h
theorem eqV_int {H : AH} {a b : Int} {Q : Bool → Prop} : eqV H (.int a) (.int b) Q = Q (decide (a = b)) := by
  have e : (a == b) = decide (a = b) := by rw [Bool.eq_iff_iff]; simp
  simp [eqV, rv_none, rv_bool, rv_int, rv_str, rv_tup, rv_lst, rv_ref, rv_inst, rv_iref, td_none, td_bool, td_int, td_str, td_tup, td_lst, td_ref, td_inst, td_iref, dp_none, dp_int, dp_bool, dp_str, dp_list, dp_tup, ev_int, ev_str, ev_bool, ev_none, ev_list, ev_tup, e]
theorem sizeLine_val : sizeLine = 16777216 := rfl
theorem cxN_glob {tbl : Tbl} {gl : List (String × V)} {cls : Clss} {d : Nat} {x : String} : (cxN tbl gl cls d).glob x = gl.lookup x := rfl

structure Has (tbl : Tbl) (gl : List (String × V)) : Prop where
  whole : tbl.lookup "is_whole" = some F_is_whole
  text : tbl.lookup "is_text" = some F_is_text
  symbol : tbl.lookup "is_symbol" = some F_is_symbol
  rule : tbl.lookup "is_rule" = some F_is_rule
  book : tbl.lookup "need_book" = some F_need_book
  signs : gl.lookup "SIGNS" = some (.str SIGNS)
  mr : gl.lookup "MOST_RULES" = some (.int 600)
  mw : gl.lookup "MOST_ROW" = some (.int 2000)

section
variable {tbl : Tbl} {gl : List (String × V)} {cls : Clss} {d : Nat} {H : AH} {Q : V → Prop} {X : String → Prop}

theorem sp_whole {v : V} (h : Has tbl gl) (b c : Bool) (h1 : isT H .int v = some b) (h2 : isT H .bool v = some c) (hq : Q (.bool (b && !c))) : (cxN tbl gl cls (d + 1)).call "is_whole" [v] H Q X := by
  refine call_of h.whole rfl (by decide) ?_
  simp [F_is_whole, wb_0, wb_1, h1, h2]
  cases b <;> simp_all

theorem sp_text1 {c : Nat} (h : Has tbl gl) (hc : c ∈ SG) (hq : Q (.bool true)) : (cxN tbl gl cls (d + 1)).call "is_text" [.str ⟨#[c]⟩] H Q X := by
  refine call_of h.text rfl (by decide) ?_
  have hs := has_sign c hc
  simp [F_is_text, wb_0, wb_1, in_str, signsOf, fl_nil, fl_cons, cxN, h.signs, hs, hq]

theorem sp_symbol {s : Sy} {n : Nat} (h : Has tbl gl) (hs : s.ok n) (hq : Q (.bool true)) : (cxN tbl gl cls (d + 2)).call "is_symbol" [s.v, .int n] H Q X := by
  refine call_of h.symbol rfl (by decide) ?_
  unfold F_is_symbol
  cases s with
  | ch c =>
    (refine wb_cons ?_; simp [eqV_int, sizeLine_val, idx_nat, idx_zero, idx_one, cxN_glob, Sy.v])
    refine sp_whole h false false (by simp) (by simp) ?_
    simp
    refine wb_nil ?_
    (refine wb_cons ?_; simp [eqV_int, sizeLine_val, idx_nat, idx_zero, idx_one, cxN_glob])
    refine sp_text1 h hs ?_
    simp [eqV_int, sizeLine_val, idx_nat, idx_zero, idx_one, cxN_glob, hq, Str.length]
  | ru k =>
    (refine wb_cons ?_; simp [eqV_int, sizeLine_val, idx_nat, idx_zero, idx_one, cxN_glob, Sy.v])
    refine sp_whole h true false (by simp) (by simp) ?_
    have hk : (k : Int) < n := by exact_mod_cast hs
    simp
    (refine wb_cons ?_; simp [eqV_int, sizeLine_val, idx_nat, idx_zero, idx_one, cxN_glob, hk, hq])

theorem sp_rule {a b : Sy} {n : Nat} (h : Has tbl gl) (ha : a.ok n) (hb : b.ok n) (hq : Q (.bool true)) : (cxN tbl gl cls (d + 3)).call "is_rule" [.tup [a.v, b.v], .int n] H Q X := by
  refine call_of h.rule rfl (by decide) ?_
  unfold F_is_rule
  (refine wb_cons ?_; simp [eqV_int, sizeLine_val, idx_nat, idx_zero, idx_one, cxN_glob])
  refine wb_nil ?_
  (refine wb_cons ?_; simp [eqV_int, sizeLine_val, idx_nat, idx_zero, idx_one, cxN_glob])
  refine sp_symbol h ha ?_
  simp [eqV_int, sizeLine_val, idx_nat, idx_zero, idx_one, cxN_glob]
  refine sp_symbol h hb ?_
  simp [eqV_int, sizeLine_val, idx_nat, idx_zero, idx_one, cxN_glob, hq]

noncomputable abbrev Rl := Sy × Sy
noncomputable def pv (p : Rl) : V := .tup [p.1.v, p.2.v]
noncomputable def RulesOk (rs : List Rl) : Prop := ∀ (i : Nat) (p : Rl), rs[i]? = some p → p.1.ok i ∧ p.2.ok i
noncomputable def RowOk (n : Nat) (row : List Sy) : Prop := ∀ s ∈ row, s.ok n
noncomputable def bookV (rs : List Rl) (row : List Sy) : V := .tup [.lst (rs.map pv), .lst (row.map Sy.v)]

theorem frzs_map {α : Type} {H B : AH} {n : Nat} {f : α → V} : ∀ {l : List α}, (∀ x ∈ l, frz H B n (f x) = some (f x)) → frzs H B n (l.map f) = some (l.map f)
  | [], _ => by simp
  | x :: l, h => by
    have ih := frzs_map (H := H) (B := B) (n := n) (f := f) (l := l) fun y hy => h y (by simp [hy])
    simp only [List.map_cons, fzs_nil, fzs_cons, h x (by simp), ih]
theorem frz_sy {H B : AH} {n : Nat} (s : Sy) : frz H B (n + 1) s.v = some s.v := by cases s <;> simp [Sy.v]
theorem frz_pv {H B : AH} {n : Nat} (p : Rl) : frz H B (n + 2) (pv p) = some (pv p) := by simp [pv, frz_sy]
theorem frz_rules {H B : AH} {n : Nat} (rs : List Rl) : frzs H B (n + 2) (rs.map pv) = some (rs.map pv) := frzs_map fun p _ => frz_pv p
theorem frz_row {H B : AH} {n : Nat} (row : List Sy) : frzs H B (n + 1) (row.map Sy.v) = some (row.map Sy.v) := frzs_map fun p _ => frz_sy p
theorem frz_book {H B : AH} {n : Nat} (rs : List Rl) (row : List Sy) : frz H B (n + 4) (bookV rs row) = some (bookV rs row) := by
  have h1 := frz_rules (H := H) (B := B) (n := n) rs
  have h2 := frz_row (H := H) (B := B) (n := n + 1) row
  simp [bookV, h1, h2]

theorem upL_nil {a b : Int} (h : b ≤ a) : upL a b = [] := by
  unfold upL
  have : (b - a).toNat = 0 := by omega
  simp [this]
theorem upL_cons {a b : Int} (h : a < b) : upL a b = .int a :: upL (a + 1) b := by
  unfold upL
  have : (b - a).toNat = (b - (a + 1)).toNat + 1 := by omega
  rw [this, List.range_succ_eq_map]
  simp only [List.map_cons, List.map_map, List.cons.injEq]
  refine ⟨by simp, List.map_congr_left fun k _ => ?_⟩
  simp only [Function.comp]
  congr 1
  omega

theorem sp_need {rs : List Rl} {row : List Sy} (h : Has tbl gl) (hr : RulesOk rs) (hw : RowOk rs.length row) (hl : rs.length ≤ 600) (hl2 : row.length ≤ 2000) (hq : Q (bookV rs row)) : (cxN tbl gl cls (d + 4)).call "need_book" [bookV rs row] H Q X := by
  refine call_of h.book rfl (by decide) ?_
  have e1 : ¬ ((600 : Int) < rs.length) := by omega
  have e2 : ¬ ((2000 : Int) < row.length) := by omega
  unfold F_need_book
  (refine wb_cons ?_; simp [eqV_int, sizeLine_val, idx_nat, idx_zero, idx_one, cxN_glob, bookV])
  refine wb_nil ?_
  (refine wb_cons ?_; simp [eqV_int, sizeLine_val, idx_nat, idx_zero, idx_one, cxN_glob])
  (refine wb_cons ?_; simp [eqV_int, sizeLine_val, idx_nat, idx_zero, idx_one, cxN_glob])
  (refine wb_cons ?_; simp [eqV_int, sizeLine_val, idx_nat, idx_zero, idx_one, cxN_glob])
  refine wb_nil ?_
  (refine wb_cons ?_; simp [eqV_int, sizeLine_val, idx_nat, idx_zero, idx_one, cxN_glob, h.mr, h.mw, e1, e2])
  refine wb_nil ?_
  (refine wb_cons ?_; simp [eqV_int, sizeLine_val, idx_nat, idx_zero, idx_one, cxN_glob])
  refine ⟨by unfold smallI; omega, ?_⟩
  refine forL_ind (fun xs st => ∃ (i : Nat) (x y : Option V), i ≤ rs.length ∧ xs = upL i rs.length ∧ st = ⟨[some (bookV rs row), some (.lst (rs.map pv)), some (.lst (row.map Sy.v)), x, y], H, H⟩) ?_ ?_ _ _ ⟨0, _, _, Nat.zero_le _, rfl, rfl⟩
  · rintro x xs st ih ⟨i, x', y, hi, hxs, rfl⟩
    have hlt : i < rs.length := by
      rcases Nat.lt_or_ge i rs.length with q | q
      · exact q
      · rw [upL_nil (by omega)] at hxs; cases hxs
    rw [upL_cons (by omega)] at hxs
    cases hxs
    obtain ⟨o1, o2⟩ := hr i rs[i] (List.getElem?_eq_getElem hlt)
    refine ⟨[some (bookV rs row), some (.lst (rs.map pv)), some (.lst (row.map Sy.v)), some (.int i), y], by simp, ?_⟩
    (refine wb_cons ?_; simp [eqV_int, sizeLine_val, idx_nat, idx_zero, idx_one, cxN_glob, hlt, pv])
    refine sp_rule h o1 o2 ?_
    simp
    refine wb_nil (wb_nil ?_)
    exact ih _ ⟨i + 1, _, _, hlt, by simp, rfl⟩
  · rintro st ⟨i, x, y, hi, hxs, rfl⟩
    (refine wb_cons ?_; simp [eqV_int, sizeLine_val, idx_nat, idx_zero, idx_one, cxN_glob])
    refine forL_ind (fun xs st => ∃ (y : Option V) (r : List Sy), (∀ s ∈ r, s.ok rs.length) ∧ xs = r.map Sy.v ∧ st = ⟨[some (bookV rs row), some (.lst (rs.map pv)), some (.lst (row.map Sy.v)), x, y], H, H⟩) ?_ ?_ _ _ ⟨_, row, hw, rfl, rfl⟩
    · rintro z zs st ih ⟨y, r, hro, hz, rfl⟩
      cases r with
      | nil => cases hz
      | cons s r =>
        cases hz
        refine ⟨[some (bookV rs row), some (.lst (rs.map pv)), some (.lst (row.map Sy.v)), x, some s.v], by simp, ?_⟩
        (refine wb_cons ?_; simp [eqV_int, sizeLine_val, idx_nat, idx_zero, idx_one, cxN_glob])
        refine sp_symbol h (hro s (by simp)) ?_
        simp
        refine wb_nil (wb_nil ?_)
        exact ih _ ⟨_, r, fun s hs => hro s (by simp [hs]), rfl, rfl⟩
    · rintro st ⟨y, r, hro, hz, rfl⟩
      refine wb_cons ?_
      simp only [ws_0, ws_1, ws_2, ws_3, ws_4, ws_5, ws_6, ws_7, ws_8, ws_9, ws_10, ws_11, ws_12, ws_13, pk_ret, pk_next, we_0, we_1, we_2, we_3, we_4, we_5, we_6, we_7, we_8, we_9, we_10, we_11, we_12, we_13, we_14, we_15, we_16, we_17, we_18, we_19, we_20, we_21, we_22, we_23, we_24, we_25, we_26, we_27, we_28, we_29, we_30, we_31, we_32, we_33, we_34, we_35, List.getElem?_cons_zero, frz_book]
      exact hq
end

end Lib
end

section
set_option autoImplicit false
set_option linter.unusedSimpArgs false
set_option linter.unusedVariables false
namespace Lib
open PySem Mine

/-! the texts of a book's rules -/
noncomputable def tx (ts : List (List Nat)) : Sy → List Nat
  | .ch c => [c]
  | .ru k => ts.getD k []
noncomputable def Tx (rs : List Rl) : List (List Nat) := rs.foldl (fun ts p => ts ++ [tx ts p.1 ++ tx ts p.2]) []
theorem Tx_snoc (rs : List Rl) (p : Rl) : Tx (rs ++ [p]) = Tx rs ++ [tx (Tx rs) p.1 ++ tx (Tx rs) p.2] := by simp [Tx]
theorem fold_more : ∀ (rs : List Rl) (ts : List (List Nat)), ∃ us, rs.foldl (fun ts p => ts ++ [tx ts p.1 ++ tx ts p.2]) ts = ts ++ us ∧ us.length = rs.length
  | [], ts => ⟨[], by simp⟩
  | p :: rs, ts => by
    obtain ⟨us, h1, h2⟩ := fold_more rs (ts ++ [tx ts p.1 ++ tx ts p.2])
    exact ⟨(tx ts p.1 ++ tx ts p.2) :: us, by simp [h1], by simp [h2]⟩
theorem Tx_length (rs : List Rl) : (Tx rs).length = rs.length := by
  obtain ⟨us, h1, h2⟩ := fold_more rs []
  simp [Tx, h1, h2]
theorem Tx_append (a b : List Rl) : ∃ us, Tx (a ++ b) = Tx a ++ us ∧ us.length = b.length := by
  unfold Tx
  rw [List.foldl_append]
  exact fold_more b _
theorem tx_more {ts us : List (List Nat)} {s : Sy} (h : s.ok ts.length) : tx (ts ++ us) s = tx ts s := by
  cases s with
  | ch c => rfl
  | ru k =>
    have h : k < ts.length := h
    simp [tx, List.getD, List.getElem?_append_left h]
theorem Tx_get {rs : List Rl} (hr : RulesOk rs) {i : Nat} {p : Rl} (hp : rs[i]? = some p) : (Tx rs)[i]? = some (tx (Tx rs) p.1 ++ tx (Tx rs) p.2) := by
  obtain ⟨hlt, e⟩ := List.getElem?_eq_some_iff.mp hp
  obtain ⟨o1, o2⟩ := hr i p hp
  have hsplit : rs = (rs.take i ++ [p]) ++ rs.drop (i + 1) := by
    rw [List.append_assoc, List.singleton_append, ← e, List.getElem_cons_drop, List.take_append_drop]
  have htl : (Tx (rs.take i)).length = i := by rw [Tx_length, List.length_take]; omega
  obtain ⟨us, h1, _⟩ := Tx_append (rs.take i ++ [p]) (rs.drop (i + 1))
  rw [Tx_snoc] at h1
  have hT : Tx rs = Tx (rs.take i) ++ ([tx (Tx (rs.take i)) p.1 ++ tx (Tx (rs.take i)) p.2] ++ us) := by
    rw [← List.append_assoc, ← h1, ← hsplit]
  have m1 : tx (Tx rs) p.1 = tx (Tx (rs.take i)) p.1 := by rw [hT]; exact tx_more (by rw [htl]; exact o1)
  have m2 : tx (Tx rs) p.2 = tx (Tx (rs.take i)) p.2 := by rw [hT]; exact tx_more (by rw [htl]; exact o2)
  rw [m1, m2, hT, List.getElem?_append_right (by omega), htl]
  simp
noncomputable def bt (rs : List Rl) (row : List Sy) : List Nat := (row.map (tx (Tx rs))).flatten
noncomputable def lst (l : List Nat) : V := .str ⟨l.toArray⟩

end Lib
end

section
set_option autoImplicit false
set_option linter.unusedSimpArgs false
set_option linter.unusedVariables false
namespace Lib
open PySem Mine

section
variable {tbl : Tbl} {gl : List (String × V)} {cls : Clss} {d : Nat} {H : AH} {Q : V → Prop} {X : String → Prop}

theorem fm (a : Int) {b : Int} (h : 0 < b) : 0 ≤ a.fmod b ∧ a.fmod b < b := ⟨Int.fmod_nonneg_of_pos a h, Int.fmod_lt_of_pos a h⟩

theorem sp_cell {ns : List Int} {k : Nat} (h : tbl.lookup "_law_cell_at" = some F_law_cell_at) (hq : ∀ i : Int, Q (.int i)) : (cxN tbl gl cls (d + 1)).call "_law_cell_at" [.lst (ns.map V.int), .int k] H Q X := by
  refine call_of h rfl (by decide) ?_
  unfold F_law_cell_at
  by_cases hk : k < ns.length
  · (refine wb_cons ?_; simp [eqV_int, sizeLine_val, idx_nat, idx_zero, idx_one, cxN_glob, hk])
    (refine wb_cons ?_; simp [eqV_int, sizeLine_val, idx_nat, idx_zero, idx_one, cxN_glob, hk, hq])
  · (refine wb_cons ?_; simp [eqV_int, sizeLine_val, idx_nat, idx_zero, idx_one, cxN_glob, hk])
    refine wb_nil ?_
    (refine wb_cons ?_; simp [eqV_int, sizeLine_val, idx_nat, idx_zero, idx_one, cxN_glob, hq])

theorem sp_sign {c : Int} (h : tbl.lookup "_law_sign_by" = some F_law_sign_by) (hq : ∀ c ∈ SG, Q (.str ⟨#[c]⟩)) : (cxN tbl gl cls (d + 1)).call "_law_sign_by" [.int c] H Q X := by
  refine call_of h rfl (by decide) ?_
  unfold F_law_sign_by
  (refine wb_cons ?_; simp [eqV_int, sizeLine_val, idx_nat, idx_zero, idx_one, cxN_glob])
  refine wb_cons ?_
  simp only [ws_0, ws_1, ws_2, ws_3, ws_4, ws_5, ws_6, ws_7, ws_8, ws_9, ws_10, ws_11, ws_12, ws_13, pk_ret, pk_next, we_0, we_1, we_2, we_3, we_4, we_5, we_6, we_7, we_8, we_9, we_10, we_11, we_12, we_13, we_14, we_15, we_16, we_17, we_18, we_19, we_20, we_21, we_22, we_23, we_24, we_25, we_26, we_27, we_28, we_29, we_30, we_31, we_32, we_33, we_34, we_35, bv_add, bv_adds, bv_addl, bv_sub, bv_mul, bv_fdiv, bv_mod, bv_mull, bv_muls, bd_var, bd_tup, bd_none, bd_bool, bd_int, bd_str, bd_lst, bd_ref, bd_inst, bd_iref, List.getElem?_cons_zero, List.getElem?_cons_succ, List.set_cons_zero, List.set_cons_succ]
  refine ⟨by decide +kernel, ?_⟩
  simp only [List.length_cons, List.length_nil]
  refine wb_cons ?_
  have e : Str.ofString " !\"#$&'()*+,-./0123456789:;<=>?@ABCDEFGHIJKLMNOPQRSTUVWXYZ[\\]^_`" ++ Str.ofString "abcdefghijklmnopqrstuvwxyz{|}~\n" = SIGNS := by decide +kernel
  have hl : SIGNS.length = 95 := by decide +kernel
  have hm : (c.fmod 95).toNat < 95 := by
    have := fm c (b := 95) (by omega)
    omega
  have hc : c.fmod 95 = (((c.fmod 95).toNat : Nat) : Int) := by
    have := fm c (b := 95) (by omega)
    omega
  rw [e]
  have hidx : idx SIGNS.length (c.fmod 95) = some (c.fmod 95).toNat := by rw [hc, hl]; exact idx_nat hm
  have hSG : SG.length = 95 := by decide +kernel
  have hg : SIGNS.cps.toList[(c.fmod 95).toNat]? = some (SG[(c.fmod 95).toNat]'(by omega)) := List.getElem?_eq_getElem (by rw [show SIGNS.cps.toList = SG from rfl]; omega)
  simp [hidx]
  rw [show SIGNS.cps[(c.fmod 95).toNat]? = SIGNS.cps.toList[(c.fmod 95).toNat]? by simp, hg]
  simp
  exact hq _ (List.getElem_mem _)

structure Hs0 (tbl : Tbl) : Prop where
  cell : tbl.lookup "_law_cell_at" = some F_law_cell_at
  sign : tbl.lookup "_law_sign_by" = some F_law_sign_by
  sym : tbl.lookup "_law_symbol_by" = some F_law_symbol_by
  byc : ∃ ws, tbl.lookup "_law_book_by" = some { F_law_book_by with vars := ws }
structure Hs (tbl : Tbl) : Prop extends Hs0 tbl where
  small : tbl.lookup "_law_small" = some F_law_small
  size : tbl.lookup "_law_size" = some F_law_size
  told : tbl.lookup "_law_told" = some F_law_told

theorem sp_symby {cell first : Int} {many : Nat} (h : Hs0 tbl) (hq : ∀ s : Sy, s.ok many → Q s.v) : (cxN tbl gl cls (d + 2)).call "_law_symbol_by" [.int cell, .int many, .int first] H Q X := by
  refine call_of h.sym rfl (by decide) ?_
  unfold F_law_symbol_by
  have sgn : ∀ c ∈ SG, Q (.str ⟨#[c]⟩) := fun c hc => hq (.ch c) hc
  by_cases hm : many = 0
  · subst hm
    (refine wb_cons ?_; simp [eqV_int, sizeLine_val, idx_nat, idx_zero, idx_one, cxN_glob])
    (refine wb_cons ?_; simp [eqV_int, sizeLine_val, idx_nat, idx_zero, idx_one, cxN_glob])
    refine ⟨by left; have := fm (cell.fdiv 3) (b := 3) (by omega); omega, ?_⟩
    exact sp_sign h.sign fun c hc => by simp; exact sgn c hc
  · by_cases h3 : cell.fmod 3 = 0
    · (refine wb_cons ?_; simp [eqV_int, sizeLine_val, idx_nat, idx_zero, idx_one, cxN_glob, hm, h3])
      (refine wb_cons ?_; simp [eqV_int, sizeLine_val, idx_nat, idx_zero, idx_one, cxN_glob])
      refine ⟨by left; have := fm (cell.fdiv 3) (b := 3) (by omega); omega, ?_⟩
      exact sp_sign h.sign fun c hc => by simp; exact sgn c hc
    · (refine wb_cons ?_; simp [eqV_int, sizeLine_val, idx_nat, idx_zero, idx_one, cxN_glob, hm, h3])
      refine wb_nil ?_
      by_cases h4 : cell.fmod 3 = 1
      · (refine wb_cons ?_; simp [eqV_int, sizeLine_val, idx_nat, idx_zero, idx_one, cxN_glob, h4])
        (refine wb_cons ?_; simp [eqV_int, sizeLine_val, idx_nat, idx_zero, idx_one, cxN_glob])
        have := hq (.ru (many - 1)) (show many - 1 < many by omega)
        have e : ((many : Int) - 1) = ((many - 1 : Nat) : Int) := by omega
        rw [e]; exact this
      · (refine wb_cons ?_; simp [eqV_int, sizeLine_val, idx_nat, idx_zero, idx_one, cxN_glob, h4])
        refine wb_nil ?_
        (refine wb_cons ?_; simp [eqV_int, sizeLine_val, idx_nat, idx_zero, idx_one, cxN_glob, hm])
        have hf := fm (cell.fdiv 3) (b := (many : Int)) (by omega)
        have := hq (.ru ((cell.fdiv 3).fmod many).toNat) (show ((cell.fdiv 3).fmod many).toNat < many by omega)
        have e : (cell.fdiv 3).fmod (many : Int) = ((((cell.fdiv 3).fmod many).toNat : Nat) : Int) := by omega
        rw [e]; exact this

theorem upd_at {H : AH} {a b : Nat} {o : AO} : AH.upd H a o b = if b = a then some o else H b := rfl

theorem sp_bookby {ns : List Int} {first : Int} (h : Hs0 tbl) (hn : ns.length ≤ 1000) (hq : ∀ rs row, RulesOk rs → RowOk rs.length row → rs.length + row.length ≤ ns.length → Q (bookV rs row)) :
    (cxN tbl gl cls (d + 3)).call "_law_book_by" [.lst (ns.map V.int), .int first] H Q X := by
  obtain ⟨ws, hws⟩ := h.byc
  refine call_of hws rfl (by simp [F_law_book_by]) ?_
  unfold F_law_book_by
  (refine wb_cons ?_; simp [eqV_int, sizeLine_val, idx_nat, idx_zero, idx_one, cxN_glob])
  intro a ha
  (refine wb_cons ?_; simp [eqV_int, sizeLine_val, idx_nat, idx_zero, idx_one, cxN_glob])
  intro b hb hHb
  have hab : b ≠ a := by rintro rfl; simp [upd_at] at hb
  (refine wb_cons ?_; simp [eqV_int, sizeLine_val, idx_nat, idx_zero, idx_one, cxN_glob])
  refine forL_ind (fun xs st => ∃ (r : List Int) (rs : List Rl) (row : List Sy) (x y : Option V) (H' : AH), xs = r.map V.int ∧ RulesOk rs ∧ RowOk rs.length row ∧ rs.length + row.length + r.length ≤ ns.length ∧ H' a = some (.list (rs.map pv)) ∧ H' b = some (.list (row.map Sy.v)) ∧
      st = ⟨[some (.lst (ns.map V.int)), some (.int first), some (.ref a), some (.ref b), x, y], H', H⟩) ?_ ?_ _ _ ⟨ns, [], [], _, _, _, rfl, by simp [RulesOk], by simp [RowOk], by simp, by simp [upd_at, hab, Ne.symm hab], by simp [upd_at], rfl⟩
  · rintro z zs st ih ⟨r, rs, row, x, y, H', hz, hr, hw, hl, h1, h2, rfl⟩
    cases r with
    | nil => cases hz
    | cons i r =>
      cases hz
      simp only [List.length_cons] at hl
      refine ⟨[some (.lst (ns.map V.int)), some (.int first), some (.ref a), some (.ref b), some (.int i), y], by simp, ?_⟩
      by_cases h3 : i.fmod 3 < 2
      · (refine wb_cons ?_; simp [eqV_int, sizeLine_val, idx_nat, idx_zero, idx_one, cxN_glob, h3])
        (refine wb_cons ?_; simp [eqV_int, sizeLine_val, idx_nat, idx_zero, idx_one, cxN_glob, h1])
        refine sp_symby h fun s hs => ?_
        (refine wb_cons ?_; simp [eqV_int, sizeLine_val, idx_nat, idx_zero, idx_one, cxN_glob, h1])
        refine sp_symby h fun s' hs' => ?_
        simp [eqV_int, sizeLine_val, idx_nat, idx_zero, idx_one, cxN_glob, h1, ha]
        refine ⟨by omega, wb_nil (wb_nil ?_)⟩
        refine ih _ ⟨r, rs ++ [(s, s')], row, _, _, _, rfl, ?_, ?_, ?_, ?_, ?_, rfl⟩
        · intro k p hp
          rcases Nat.lt_or_ge k rs.length with q | q
          · rw [List.getElem?_append_left q] at hp; exact hr k p hp
          · rw [List.getElem?_append_right q] at hp
            have e : k - rs.length = 0 := by
              rcases Nat.eq_zero_or_pos (k - rs.length) with z | z
              · exact z
              · rw [List.getElem?_eq_none (by simp; omega)] at hp; cases hp
            rw [e] at hp
            simp at hp
            subst hp
            have ek : k = rs.length := by omega
            subst ek
            exact ⟨hs, hs'⟩
        · intro z hz; exact (hw z hz).mono (by simp)
        · simp; omega
        · simp [upd_at, pv]
        · simp [upd_at, hab, h2]
      · (refine wb_cons ?_; simp [eqV_int, sizeLine_val, idx_nat, idx_zero, idx_one, cxN_glob, h3])
        (refine wb_cons ?_; simp [eqV_int, sizeLine_val, idx_nat, idx_zero, idx_one, cxN_glob, h1, h2])
        refine sp_symby h fun s hs => ?_
        simp [eqV_int, sizeLine_val, idx_nat, idx_zero, idx_one, cxN_glob, h2, hHb]
        refine ⟨by omega, wb_nil (wb_nil ?_)⟩
        refine ih _ ⟨r, rs, row ++ [s], _, _, _, rfl, hr, ?_, ?_, ?_, ?_, rfl⟩
        · intro z hz
          rcases List.mem_append.mp hz with q | q
          · exact hw z q
          · simp at q; subst q; exact hs
        · simp; omega
        · simp [upd_at, Ne.symm hab, h1]
        · simp [upd_at]
  · rintro st ⟨r, rs, row, x, y, H', hz, hr, hw, hl, h1, h2, rfl⟩
    have hz' : r = [] := by cases r with
      | nil => rfl
      | cons => cases hz
    subst hz'
    have f1 := frz_rules (H := H') (B := H) (n := 4) rs
    have f2 := frz_row (H := H') (B := H) (n := 5) row
    (refine wb_cons ?_; simp [eqV_int, sizeLine_val, idx_nat, idx_zero, idx_one, cxN_glob, ha, hHb, h1, h2, f1, f2])
    exact hq rs row hr hw (by simpa using hl)
end

end Lib
end

section
set_option autoImplicit false
set_option linter.unusedSimpArgs false
set_option linter.unusedVariables false
namespace Lib
open PySem Mine

section
variable {tbl : Tbl} {gl : List (String × V)} {cls : Clss} {d : Nat} {H : AH} {Q : V → Prop} {X : String → Prop}

noncomputable def szv (ts : List (List Nat)) : List V := ts.map fun l => V.int (l.length : Int)

theorem seq_ref {a : Nat} {vs : List V} (h : H a = some (.list vs)) : seqL H (.ref a) = some vs := by simp [h]
theorem sub_seq {u : V} {vs : List V} {k : Nat} {w : V} (hu : seqL H u = some vs) (hk : vs[k]? = some w) (hq : Q w) : subV H u (.int k) Q := by
  have hlt : k < vs.length := (List.getElem?_eq_some_iff.mp hk).1
  cases u <;> simp at hu
  · subst hu; simp [idx_nat hlt, hk, hq]
  · rename_i a
    cases ho : H a with
    | none => simp [ho] at hu
    | some o => cases o <;> simp [ho] at hu
                subst hu; simp [ho, idx_nat hlt, hk, hq]
theorem sp_sizeG {f : String} {s : Sy} {u : V} {ts : List (List Nat)} (h : ∃ ws, tbl.lookup f = some { F_law_size with vars := ws }) (hu : seqL H u = some (szv ts)) (hs : s.ok ts.length) (hq : Q (.int (tx ts s).length)) : (cxN tbl gl cls (d + 1)).call f [s.v, u] H Q X := by
  obtain ⟨ws, hws⟩ := h
  refine call_of hws rfl (by simp [F_law_size]) ?_
  unfold F_law_size
  cases s with
  | ch c =>
    (refine wb_cons ?_; simp [eqV_int, sizeLine_val, idx_nat, idx_zero, idx_one, cxN_glob, Sy.v])
    (refine wb_cons ?_; simp [eqV_int, sizeLine_val, idx_nat, idx_zero, idx_one, cxN_glob])
    simpa [tx] using hq
  | ru k =>
    have hk : k < ts.length := hs
    (refine wb_cons ?_; simp [eqV_int, sizeLine_val, idx_nat, idx_zero, idx_one, cxN_glob, Sy.v])
    refine wb_nil ?_
    have hg : (szv ts)[k]? = some (V.int ((tx ts (.ru k)).length : Int)) := by simp [szv, tx, List.getD, List.getElem?_eq_getElem hk]
    refine wb_cons ?_
    simp only [ws_0, ws_1, ws_2, ws_3, ws_4, ws_5, ws_6, ws_7, ws_8, ws_9, ws_10, ws_11, ws_12, ws_13, pk_ret, pk_next, we_0, we_1, we_2, we_3, we_4, we_5, we_6, we_7, we_8, we_9, we_10, we_11, we_12, we_13, we_14, we_15, we_16, we_17, we_18, we_19, we_20, we_21, we_22, we_23, we_24, we_25, we_26, we_27, we_28, we_29, we_30, we_31, we_32, we_33, we_34, we_35, List.getElem?_cons_zero, List.getElem?_cons_succ, List.map_cons, List.map_nil, List.cons_append]
    refine sub_seq hu hg ?_
    simpa using hq
theorem sp_size {s : Sy} {a : Nat} {ts : List (List Nat)} (h : Hs tbl) (ha : H a = some (.list (szv ts))) (hs : s.ok ts.length) (hq : Q (.int (tx ts s).length)) : (cxN tbl gl cls (d + 1)).call "_law_size" [s.v, .ref a] H Q X :=
  sp_sizeG ⟨_, h.size⟩ (seq_ref ha) hs hq

theorem RulesOk.snoc {rs : List Rl} {s s' : Sy} (hr : RulesOk rs) (hs : s.ok rs.length) (hs' : s'.ok rs.length) : RulesOk (rs ++ [(s, s')]) := by
  intro k p hp
  rcases Nat.lt_or_ge k rs.length with q | q
  · rw [List.getElem?_append_left q] at hp; exact hr k p hp
  · rw [List.getElem?_append_right q] at hp
    have e : k - rs.length = 0 := by
      rcases Nat.eq_zero_or_pos (k - rs.length) with z | z
      · exact z
      · rw [List.getElem?_eq_none (by simp; omega)] at hp; cases hp
    rw [e] at hp
    simp at hp
    subst hp
    have ek : k = rs.length := by omega
    subst ek
    exact ⟨hs, hs'⟩

theorem sp_small {rs : List Rl} {row : List Sy} (h : Hs tbl) (hr : RulesOk rs) (hw : RowOk rs.length row) (hn : rs.length ≤ 1000) (hn2 : row.length ≤ 2000)
    (hq : ∀ rs' row', RulesOk rs' → RowOk rs'.length row' → rs'.length = rs.length → row'.length ≤ row.length → (∀ l ∈ Tx rs', l.length ≤ 200) → (bt rs' row').length ≤ 800 → Q (bookV rs' row')) :
    (cxN tbl gl cls (d + 2)).call "_law_small" [bookV rs row, .int 200] H Q X := by
  refine call_of h.small rfl (by decide) ?_
  unfold F_law_small
  (refine wb_cons ?_; simp [eqV_int, sizeLine_val, idx_nat, idx_zero, idx_one, cxN_glob])
  intro a ha
  (refine wb_cons ?_; simp [eqV_int, sizeLine_val, idx_nat, idx_zero, idx_one, cxN_glob])
  intro b hb hHb
  have hab : b ≠ a := by rintro rfl; simp [upd_at] at hb
  (refine wb_cons ?_; simp [eqV_int, sizeLine_val, idx_nat, idx_zero, idx_one, cxN_glob, bookV])
  refine forL_ind (fun xs st => ∃ (pre r : List Rl) (rs' : List Rl) (x y z : Option V) (H' : AH), rs = pre ++ r ∧ xs = r.map pv ∧ rs'.length = pre.length ∧ RulesOk rs' ∧ (∀ l ∈ Tx rs', l.length ≤ 200) ∧ H' a = some (.list (szv (Tx rs'))) ∧ H' b = some (.list (rs'.map pv)) ∧
      st = ⟨[some (bookV rs row), some (.int 200), some (.ref a), some (.ref b), none, none, none, x, y, z], H', H⟩) ?_ ?_ _ _ ⟨[], rs, [], _, _, _, _, rfl, rfl, rfl, by simp [RulesOk], by simp [Tx], by simp [upd_at, Ne.symm hab, szv, Tx], by simp [upd_at], rfl⟩
  · rintro v vs st ih ⟨pre, r, rs', x, y, z, H', hsp, hv, hln, hr', h200, h1, h2, rfl⟩
    cases r with
    | nil => cases hv
    | cons p r =>
    cases hv
    obtain ⟨p1, p2⟩ := p
    have hsl : rs.length = pre.length + (r.length + 1) := by rw [hsp]; simp
    obtain ⟨o1, o2⟩ := hr pre.length (p1, p2) (by rw [hsp]; simp)
    rw [← hln] at o1 o2
    have hTl : (Tx rs').length = rs'.length := Tx_length _
    refine ⟨[some (bookV rs row), some (.int 200), some (.ref a), some (.ref b), none, none, none, some p1.v, some p2.v, z], by simp [pv], ?_⟩
    (refine wb_cons ?_; simp [eqV_int, sizeLine_val, idx_nat, idx_zero, idx_one, cxN_glob])
    refine sp_size h h1 (by rw [hTl]; exact o1) ?_
    refine sp_size h h1 (by rw [hTl]; exact o2) ?_
    have ends : ∀ (s s' : Sy), (tx (Tx rs') s ++ tx (Tx rs') s').length ≤ 200 → (∀ l ∈ Tx (rs' ++ [(s, s')]), l.length ≤ 200) ∧ szv (Tx (rs' ++ [(s, s')])) = szv (Tx rs') ++ [V.int ((tx (Tx rs') s).length + (tx (Tx rs') s').length)] := by
      intro s s' h2
      refine ⟨fun l hl => ?_, ?_⟩
      · rw [Tx_snoc] at hl
        rcases List.mem_append.mp hl with q | q
        · exact h200 l q
        · simp at q; subst q; simpa using h2
      · rw [Tx_snoc]; simp [szv]
    have hz : (szv (Tx rs')).length = rs'.length := by simp [szv, hTl]
    have hA : ∀ o, (H'.upd b o) a = some (.list (szv (Tx rs'))) := fun o => by rw [upd_at, if_neg (Ne.symm hab)]; exact h1
    by_cases hgt : (200 : Int) < ((tx (Tx rs') p1).length : Int) + ((tx (Tx rs') p2).length : Int)
    · (refine wb_cons ?_; simp [eqV_int, sizeLine_val, idx_nat, idx_zero, idx_one, cxN_glob, hgt])
      (refine wb_cons ?_; simp [eqV_int, sizeLine_val, idx_nat, idx_zero, idx_one, cxN_glob])
      refine wb_nil ?_
      (refine wb_cons ?_; simp [eqV_int, sizeLine_val, idx_nat, idx_zero, idx_one, cxN_glob, h2, hHb])
      refine ⟨by omega, ?_⟩
      (refine wb_cons ?_; simp [eqV_int, sizeLine_val, idx_nat, idx_zero, idx_one, cxN_glob, hA, ha])
      refine ⟨by omega, wb_nil ?_⟩
      obtain ⟨e2, e3⟩ := ends (.ch 97) (.ch 98) (by simp [tx])
      refine ih _ ⟨pre ++ [(p1, p2)], r, rs' ++ [(.ch 97, .ch 98)], _, _, _, _, by simp [hsp], rfl, by simp [hln], hr'.snoc (s := .ch 97) (s' := .ch 98) (show 97 ∈ SG by decide +kernel) (show 98 ∈ SG by decide +kernel), e2, ?_, ?_, rfl⟩
      · rw [e3]; simp [upd_at, tx]
      · simp [upd_at, hab, pv, Sy.v]; decide +kernel
    · (refine wb_cons ?_; simp [eqV_int, sizeLine_val, idx_nat, idx_zero, idx_one, cxN_glob, hgt])
      refine wb_nil ?_
      (refine wb_cons ?_; simp [eqV_int, sizeLine_val, idx_nat, idx_zero, idx_one, cxN_glob, h2, hHb])
      refine ⟨by omega, ?_⟩
      (refine wb_cons ?_; simp [eqV_int, sizeLine_val, idx_nat, idx_zero, idx_one, cxN_glob, hA, ha])
      refine ⟨by omega, wb_nil ?_⟩
      obtain ⟨e2, e3⟩ := ends p1 p2 (by simp; omega)
      refine ih _ ⟨pre ++ [(p1, p2)], r, rs' ++ [(p1, p2)], _, _, _, _, by simp [hsp], rfl, by simp [hln], hr'.snoc o1 o2, e2, ?_, ?_, rfl⟩
      · rw [e3]; simp [upd_at]
      · simp [upd_at, hab, pv]
  · rintro st ⟨pre, r, rs', x, y, z, H', hsp, hv, hln, hr', h200, h1, h2, rfl⟩
    have hr0 : r = [] := by cases r with
      | nil => rfl
      | cons => cases hv
    subst hr0
    have hpl : rs'.length = rs.length := by rw [hln, hsp]; simp
    (refine wb_cons ?_; simp [eqV_int, sizeLine_val, idx_nat, idx_zero, idx_one, cxN_glob])
    intro c hc hHc
    have hca : c ≠ a := by rintro rfl; simp [h1] at hc
    have hcb : c ≠ b := by rintro rfl; simp [h2] at hc
    (refine wb_cons ?_; simp [eqV_int, sizeLine_val, idx_nat, idx_zero, idx_one, cxN_glob])
    (refine wb_cons ?_; simp [eqV_int, sizeLine_val, idx_nat, idx_zero, idx_one, cxN_glob, bookV])
    have hTl : (Tx rs').length = rs'.length := Tx_length _
    refine forL_ind (fun xs st => ∃ (r row' : List Sy) (s : Option V) (lf : Int) (H'' : AH), xs = r.map Sy.v ∧ RowOk rs.length r ∧ row'.length + r.length ≤ row.length ∧ RowOk rs'.length row' ∧ ((bt rs' row').length : Int) + lf = 800 ∧ 0 ≤ lf ∧ H'' a = some (.list (szv (Tx rs'))) ∧ H'' b = some (.list (rs'.map pv)) ∧ H'' c = some (.list (row'.map Sy.v)) ∧
      st = ⟨[some (bookV rs row), some (.int 200), some (.ref a), some (.ref b), some (.ref c), some (.int lf), s, x, y, z], H'', H⟩) ?_ ?_ _ _ ⟨row, [], _, _, _, rfl, hw, by simp, by simp [RowOk], by simp [bt], by omega, by simp [upd_at, Ne.symm hca, h1], by simp [upd_at, Ne.symm hcb, h2], by simp [upd_at], rfl⟩
    · rintro v vs st ih ⟨r, row', s, lf, H'', hv, hro, hl, hrow', hlf, hl0, g1, g2, g3, rfl⟩
      cases r with
      | nil => cases hv
      | cons s' r =>
      cases hv
      simp only [List.length_cons] at hl
      have os : s'.ok rs'.length := by rw [hpl]; exact hro s' (by simp)
      refine ⟨[some (bookV rs row), some (.int 200), some (.ref a), some (.ref b), some (.ref c), some (.int lf), some s'.v, x, y, z], by simp, ?_⟩
      (refine wb_cons ?_; simp [eqV_int, sizeLine_val, idx_nat, idx_zero, idx_one, cxN_glob])
      refine sp_size h g1 (by rw [hTl]; exact os) ?_
      by_cases hle : ((tx (Tx rs') s').length : Int) ≤ lf
      · simp [eqV_int, sizeLine_val, idx_nat, idx_zero, idx_one, cxN_glob, hle]
        (refine wb_cons ?_; simp [eqV_int, sizeLine_val, idx_nat, idx_zero, idx_one, cxN_glob, g3, hHc])
        refine ⟨by omega, ?_⟩
        have hA : ∀ o, (H''.upd c o) a = some (.list (szv (Tx rs'))) := fun o => by rw [upd_at, if_neg (Ne.symm hca)]; exact g1
        (refine wb_cons ?_; simp [eqV_int, sizeLine_val, idx_nat, idx_zero, idx_one, cxN_glob])
        refine sp_size h (hA _) (by rw [hTl]; exact os) ?_
        simp [eqV_int, sizeLine_val, idx_nat, idx_zero, idx_one, cxN_glob]
        refine wb_nil (wb_nil ?_)
        refine ih _ ⟨r, row' ++ [s'], _, _, _, rfl, fun q hq => hro q (by simp [hq]), by simp; omega, ?_, ?_, ?_, hA _, ?_, ?_, rfl⟩
        · intro q hq
          rcases List.mem_append.mp hq with w | w
          · exact hrow' q w
          · simp at w; subst w; exact os
        · simp [bt] at hlf ⊢; omega
        · omega
        · simp [upd_at, Ne.symm hcb, g2]
        · simp [upd_at]
      · simp [eqV_int, sizeLine_val, idx_nat, idx_zero, idx_one, cxN_glob, hle]
        refine wb_nil (wb_nil ?_)
        exact ih _ ⟨r, row', _, _, _, rfl, fun q hq => hro q (by simp [hq]), by omega, hrow', hlf, hl0, g1, g2, g3, rfl⟩
    · rintro st ⟨r, row', s, lf, H'', hv, hro, hl, hrow', hlf, hl0, g1, g2, g3, rfl⟩
      have f1 := frz_rules (H := H'') (B := H) (n := 4) rs'
      have f2 := frz_row (H := H'') (B := H) (n := 5) row'
      (refine wb_cons ?_; simp [eqV_int, sizeLine_val, idx_nat, idx_zero, idx_one, cxN_glob, hHb, hHc, g2, g3, f1, f2])
      exact hq rs' row' hr' hrow' hpl (by omega) h200 (by omega)
end

end Lib
end

section
set_option autoImplicit false
set_option linter.unusedSimpArgs false
set_option linter.unusedVariables false
namespace Lib
open PySem Mine

noncomputable def S1 (l : List Nat) : Str := ⟨l.toArray⟩
theorem comp_texts {f : V → (Option V → Prop) → Prop} {K : List V → Prop} {g : Sy → List Nat} : ∀ {r : List Sy}, (∀ s ∈ r, ∀ k, k (some (lst (g s))) → f s.v k) → K ((r.map g).map lst) → compL f (r.map Sy.v) K
  | [], _, hk => hk
  | s :: r, h, hk => by
    show f s.v _
    refine h s (by simp) _ ?_
    exact comp_texts (fun s' hs => h s' (by simp [hs])) hk
theorem strs_lst : ∀ L : List (List Nat), strsOf (L.map lst) = some (L.map S1)
  | [] => rfl
  | l :: L => by simp [so_nil, so_none, so_bool, so_int, so_str, so_tup, so_lst, so_ref, so_inst, so_iref, lst, strs_lst L, S1]
theorem lenAll_S1 : ∀ L : List (List Nat), lenAll (L.map S1) = L.flatten.length
  | [] => rfl
  | l :: L => by simp only [List.map_cons, la_nil, la_cons, lenAll_S1 L, S1, Str.length, List.flatten_cons, List.length_append]; simp
theorem join_S1 : ∀ L : List (List Nat), Str.join (Str.ofString "") (L.map S1) = S1 L.flatten
  | [] => rfl
  | [l] => by simp [Str.join]
  | l :: m :: L => by
    show S1 l ++ Str.ofString "" ++ Str.join (Str.ofString "") (S1 m :: L.map S1) = _
    have := join_S1 (m :: L)
    simp only [List.map_cons] at this
    rw [this]
    apply Str.ext'
    simp [S1, Str.cps_append, show (Str.ofString "").cps = #[] from rfl]
theorem empty_len : (Str.ofString "").length = 0 := rfl

section
variable {tbl : Tbl} {gl : List (String × V)} {cls : Clss} {d : Nat} {H : AH} {Q : V → Prop} {X : String → Prop}

theorem tx_ru {ts : List (List Nat)} {k : Nat} (h : k < ts.length) : tx ts (.ru k) = ts[k] := by
  simp [tx, List.getD, List.getElem?_eq_getElem h]

theorem sp_told {rs : List Rl} {row : List Sy} (h : Hs tbl) (hr : RulesOk rs) (hw : RowOk rs.length row) (hn : rs.length ≤ 1000) (hn2 : row.length ≤ 2000) (h200 : ∀ l ∈ Tx rs, l.length ≤ 100000) (h800 : (bt rs row).length ≤ 100000)
    (hq : Q (lst (bt rs row))) : (cxN tbl gl cls (d + 1)).call "_law_told" [bookV rs row] H Q X := by
  refine call_of h.told rfl (by decide) ?_
  unfold F_law_told
  (refine wb_cons ?_; simp [eqV_int, sizeLine_val, idx_nat, idx_zero, idx_one, cxN_glob])
  intro a ha
  (refine wb_cons ?_; simp [eqV_int, sizeLine_val, idx_nat, idx_zero, idx_one, cxN_glob, bookV])
  refine forL_ind (fun xs st => ∃ (pre r : List Rl) (x : Option V) (H' : AH), rs = pre ++ r ∧ xs = r.map pv ∧ H' a = some (.list ((Tx pre).map lst)) ∧
      st = ⟨[some (bookV rs row), some (.ref a), x, none], H', H⟩) ?_ ?_ _ _ ⟨[], rs, _, _, rfl, rfl, by simp [upd_at, Tx], rfl⟩
  · rintro v vs st ih ⟨pre, r, x, H', hsp, hv, h1, rfl⟩
    cases r with
    | nil => cases hv
    | cons p r =>
    cases hv
    obtain ⟨p1, p2⟩ := p
    have hsl : rs.length = pre.length + (r.length + 1) := by rw [hsp]; simp
    obtain ⟨o1, o2⟩ := hr pre.length (p1, p2) (by rw [hsp]; simp)
    have hTl : (Tx pre).length = pre.length := Tx_length _
    have hb : (tx (Tx pre) p1 ++ tx (Tx pre) p2).length ≤ 100000 := by
      refine h200 _ ?_
      obtain ⟨us, e, _⟩ := Tx_append (pre ++ [(p1, p2)]) r
      rw [Tx_snoc] at e
      rw [show rs = pre ++ [(p1, p2)] ++ r by simp [hsp], e]
      simp
    refine ⟨[some (bookV rs row), some (.ref a), some (pv (p1, p2)), none], by simp, ?_⟩
    (refine wb_cons ?_; simp [eqV_int, sizeLine_val, idx_nat, idx_zero, idx_one, cxN_glob, h1, pv, ha])
    refine comp_texts (r := [p1, p2]) (g := tx (Tx pre)) ?_ ?_
    · intro s hs k hk
      have os : s.ok (Tx pre).length := by rw [hTl]; simp at hs; rcases hs with rfl | rfl <;> assumption
      cases s with
      | ch c => simpa [Sy.v, tx, lst] using hk
      | ru j =>
        have hj : j < (Tx pre).length := os
        simp [Sy.v, idx_nat, hj, -List.map_map, -List.getElem_map]
        rw [tx_ru hj] at hk; exact hk
    · rw [strs_lst]
      simp only [lenAll_S1, join_S1, empty_len]
      refine ⟨by simp at hb ⊢; omega, by simp [hTl]; omega, wb_nil ?_⟩
      refine ih _ ⟨pre ++ [(p1, p2)], r, _, _, by simp [hsp], rfl, ?_, rfl⟩
      rw [Tx_snoc]; simp [upd_at, lst, S1]
  · rintro st ⟨pre, r, x, H', hsp, hv, h1, rfl⟩
    have hr0 : r = [] := by cases r with
      | nil => rfl
      | cons => cases hv
    subst hr0
    simp at hsp
    subst hsp
    (refine wb_cons ?_; simp [eqV_int, sizeLine_val, idx_nat, idx_zero, idx_one, cxN_glob, bookV, h1])
    refine ⟨by omega, ?_⟩
    refine comp_texts (g := tx (Tx rs)) ?_ ?_
    · intro s hs k hk
      have os : s.ok (Tx rs).length := by rw [Tx_length]; exact hw s hs
      cases s with
      | ch c => simpa [Sy.v, tx, lst] using hk
      | ru j =>
        have hj : j < (Tx rs).length := os
        simp [Sy.v, idx_nat, hj, -List.map_map, -List.getElem_map]
        rw [tx_ru hj] at hk; exact hk
    · rw [strs_lst]
      simp only [lenAll_S1, join_S1, empty_len]
      refine ⟨by rw [show (List.map (tx (Tx rs)) row).flatten = bt rs row from rfl]; omega, ?_⟩
      exact hq
end

end Lib
end

section
set_option autoImplicit false
set_option linter.unusedSimpArgs false
set_option linter.unusedVariables false
namespace Lib
open PySem Mine

noncomputable def ones (l : List Nat) : List V := l.map fun c => V.str ⟨#[c]⟩
end Lib
end

section
set_option autoImplicit false
set_option linter.unusedSimpArgs false
set_option linter.unusedVariables false
namespace Lib
open PySem Mine

/-- plain data, not deeper than n, like itself -/
noncomputable def Dn (n : Nat) (v : V) : Prop := ∃ x, toD v = some x ∧ x.depth ≤ n ∧ PyData.eqv x x = true
theorem Dn.mono {n m : Nat} {v : V} (h : Dn n v) (hm : n ≤ m) : Dn m v := by
  obtain ⟨x, h1, h2, h3⟩ := h
  exact ⟨x, h1, by omega, h3⟩
theorem Dn.int {n : Nat} (i : Int) : Dn n (.int i) := ⟨.int i, by simp [td_none, td_bool, td_int, td_str, td_tup, td_lst, td_ref, td_inst, td_iref], by simp [dp_none, dp_int, dp_bool, dp_str, dp_list, dp_tup], by simp [ev_int, ev_str, ev_bool, ev_none, ev_list, ev_tup]⟩
theorem Dn.str {n : Nat} (i : Str) : Dn n (.str i) := ⟨.str i, by simp [td_none, td_bool, td_int, td_str, td_tup, td_lst, td_ref, td_inst, td_iref], by simp [dp_none, dp_int, dp_bool, dp_str, dp_list, dp_tup], by simp [ev_int, ev_str, ev_bool, ev_none, ev_list, ev_tup]⟩
theorem Dn.all {n : Nat} : ∀ {vs : List V}, (∀ v ∈ vs, Dn n v) → ∃ xs, toDs vs = some xs ∧ PyData.depthAll xs ≤ n ∧ PyData.eqvAll xs xs = true
  | [], _ => ⟨[], by simp [tds_nil, tds_cons], by simp [da_nil, da_cons], by simp [ea_nil, ea_cons]⟩
  | v :: vs, h => by
    obtain ⟨x, h1, h2, h3⟩ := h v (by simp)
    obtain ⟨xs, g1, g2, g3⟩ := Dn.all (vs := vs) fun w hw => h w (by simp [hw])
    refine ⟨x :: xs, by simp [tds_nil, tds_cons, h1, g1], ?_, by simp [ea_nil, ea_cons, h3, g3]⟩
    simp only [da_nil, da_cons]; omega
theorem Dn.lst {n : Nat} {vs : List V} (h : ∀ v ∈ vs, Dn n v) : Dn (n + 1) (.lst vs) := by
  obtain ⟨xs, g1, g2, g3⟩ := Dn.all h
  exact ⟨.list xs, by simp [td_none, td_bool, td_int, td_str, td_tup, td_lst, td_ref, td_inst, td_iref, g1], by simp only [dp_none, dp_int, dp_bool, dp_str, dp_list, dp_tup]; omega, by simp [ev_int, ev_str, ev_bool, ev_none, ev_list, ev_tup, g3]⟩
theorem Dn.tup {n : Nat} {vs : List V} (h : ∀ v ∈ vs, Dn n v) : Dn (n + 1) (.tup vs) := by
  obtain ⟨xs, g1, g2, g3⟩ := Dn.all h
  exact ⟨.tuple xs, by simp [td_none, td_bool, td_int, td_str, td_tup, td_lst, td_ref, td_inst, td_iref, g1], by simp only [dp_none, dp_int, dp_bool, dp_str, dp_list, dp_tup]; omega, by simp [ev_int, ev_str, ev_bool, ev_none, ev_list, ev_tup, g3]⟩
theorem Dn.sy {n : Nat} (s : Sy) : Dn n s.v := by cases s with
  | ch c => exact .str _
  | ru k => exact .int _
theorem Dn.pv {n : Nat} (p : Rl) : Dn (n + 1) (pv p) := .tup fun v hv => by
  simp at hv
  rcases hv with rfl | rfl <;> exact .sy _
theorem Dn.book {n : Nat} (rs : List Rl) (row : List Sy) : Dn (n + 3) (bookV rs row) := .tup fun v hv => by
  simp at hv
  rcases hv with rfl | rfl
  · refine .lst fun v hv => ?_
    obtain ⟨p, _, rfl⟩ := List.mem_map.mp hv
    exact .pv p
  · refine (Dn.lst (n := n + 1) fun v hv => ?_).mono (by omega)
    obtain ⟨p, _, rfl⟩ := List.mem_map.mp hv
    exact .sy p
theorem eqV_same {H : AH} {v : V} {Q : Bool → Prop} (h : Dn 64 v) (hq : Q true) : eqV H v v Q := by
  obtain ⟨x, h1, h2, h3⟩ := h
  have hr : resV H v = v := by cases v <;> first | rfl | (simp [td_none, td_bool, td_int, td_str, td_tup, td_lst, td_ref, td_inst, td_iref] at h1)
  simp [eqV, hr, h1, h2, h3, hq]
theorem eqV_str {H : AH} {s t : Str} {Q : Bool → Prop} : eqV H (.str s) (.str t) Q = Q (decide (s = t)) := by
  have e : (s == t) = decide (s = t) := by rw [Bool.eq_iff_iff]; simp
  simp [eqV, rv_none, rv_bool, rv_int, rv_str, rv_tup, rv_lst, rv_ref, rv_inst, rv_iref, td_none, td_bool, td_int, td_str, td_tup, td_lst, td_ref, td_inst, td_iref, dp_none, dp_int, dp_bool, dp_str, dp_list, dp_tup, ev_int, ev_str, ev_bool, ev_none, ev_list, ev_tup, e]
theorem cut_map {α β : Type} (f : α → β) (l : List α) (a b : Nat) : cutL (l.map f) a b = (cutL l a b).map f := by simp [cutL]
end Lib
end

section
set_option autoImplicit false
set_option linter.unusedSimpArgs false
set_option linter.unusedVariables false
namespace Lib
open PySem Mine

noncomputable def F_law_whole : Fn := ⟨1, ["_law_found"], 1,
  (.cons (.ret (.and (.isinst (.var 0) .int) (.not (.isinst (.var 0) .bool))))
  .nil)⟩

section
variable {tbl : Tbl} {gl : List (String × V)} {cls : Clss} {d : Nat} {H : AH} {Q : V → Prop} {X : String → Prop}

end

end Lib
end

section
set_option autoImplicit false
set_option linter.unusedSimpArgs false
set_option linter.unusedVariables false
namespace Lib
open PySem Mine

/-- the way down to the sign at a place of a symbol's text -/
inductive Way (rs : List Rl) : Sy → Nat → Nat → List Nat → Prop
  | ch (c : Nat) : Way rs (.ch c) 0 c []
  | left (k : Nat) (a b : Sy) (p c : Nat) (l : List Nat) (h : rs[k]? = some (a, b)) (hp : p < (tx (Tx rs) a).length) (w : Way rs a p c l) : Way rs (.ru k) p c (k :: l)
  | right (k : Nat) (a b : Sy) (p c : Nat) (l : List Nat) (h : rs[k]? = some (a, b)) (hp : p < (tx (Tx rs) b).length) (w : Way rs b p c l) : Way rs (.ru k) ((tx (Tx rs) a).length + p) c (k :: l)

theorem bt_append {rs : List Rl} {a b : List Sy} : bt rs (a ++ b) = bt rs a ++ bt rs b := by simp [bt]
noncomputable def nv (l : List Nat) : List V := l.map fun (k : Nat) => V.int (k : Int)
theorem book0 {H : AH} {rs : List Rl} {row : List Sy} {Q : V → Prop} : subV H (bookV rs row) (.int 0) Q = Q (.lst (rs.map pv)) := by simp [bookV, idx_zero]
theorem book1 {H : AH} {rs : List Rl} {row : List Sy} {Q : V → Prop} : subV H (bookV rs row) (.int 1) Q = Q (.lst (row.map Sy.v)) := by simp [bookV, idx_one]

section
variable {tbl : Tbl} {gl : List (String × V)} {cls : Clss} {d : Nat} {H : AH} {Q : V → Prop} {X : String → Prop}

end

end Lib
end

section
set_option autoImplicit false
set_option linter.unusedSimpArgs false
set_option linter.unusedVariables false
namespace Lib
open PySem Mine

section
variable {tbl : Tbl} {gl : List (String × V)} {cls : Clss} {d : Nat} {H : AH} {Q : V → Prop} {X : String → Prop}

end

end Lib
end

section
set_option autoImplicit false
set_option linter.unusedSimpArgs false
set_option linter.unusedVariables false
namespace Lib
open PySem Mine
section
variable {tbl : Tbl} {gl : List (String × V)} {cls : Clss} {d : Nat} {H : AH} {Q : V → Prop} {X : String → Prop}
theorem sp_lwhole {v : V} (h : tbl.lookup "_law_whole" = some F_law_whole) (b c : Bool) (h1 : isT H .int v = some b) (h2 : isT H .bool v = some c) (hq : Q (.bool (b && !c))) : (cxN tbl gl cls (d + 1)).call "_law_whole" [v] H Q X := by
  refine call_of h rfl (by decide) ?_
  simp [F_law_whole, wb_0, wb_1, h1, h2]
  cases b <;> simp_all
theorem cutL_length {α : Type} (l : List α) (a b : Nat) : (cutL l a b).length ≤ l.length := by simp [cutL]; omega
theorem lst_empty {l : List Nat} : ((⟨l.toArray⟩ : Str) = Str.ofString "") ↔ l = [] := by
  constructor
  · intro h
    have := congrArg Str.cps h
    simpa [show (Str.ofString "").cps = #[] from rfl] using this
  · rintro rfl; rfl
theorem lst_len {l : List Nat} : (⟨l.toArray⟩ : Str).length = l.length := by simp [Str.length]
end
end Lib
end

section
set_option autoImplicit false
set_option linter.unusedSimpArgs false
set_option linter.unusedVariables false
namespace Lib
open PySem Mine

noncomputable def syEq : Sy → Sy → Bool
  | .ch c, .ch e => c == e
  | .ru c, .ru e => c == e
  | _, _ => false
noncomputable def rlEq (p q : Rl) : Bool := syEq p.1 q.1 && syEq p.2 q.2
noncomputable def Sy.at : Sy → At
  | .ch c => .s ⟨#[c]⟩
  | .ru k => .i k
noncomputable def key (p : Rl) : List At := [p.1.at, p.2.at]
/-! tables of pairs -/
/-! counting -/
noncomputable def prs : List Sy → List Rl
  | a :: b :: r => (a, b) :: prs (b :: r)
  | _ => []
noncomputable def often (p : Rl) : List Sy → Nat
  | a :: b :: r => if rlEq (a, b) p then often p r + 1 else often p (b :: r)
  | _ => 0
/-- the count with the eye on the place just ahead -/
noncomputable def cntF (p : Rl) : Bool → List Sy → Nat
  | fl, a :: b :: r => if rlEq (a, b) p then (if fl then cntF p false (b :: r) else cntF p true (b :: r) + 1) else cntF p false (b :: r)
  | _, _ => 0
/-- first occurrences -/
noncomputable def fo (l : List Rl) : List Rl := l.foldl (fun acc q => if acc.any (rlEq q) then acc else acc ++ [q]) []
end Lib
end

section
set_option autoImplicit false
set_option linter.unusedSimpArgs false
set_option linter.unusedVariables false
namespace Lib
open PySem Mine

theorem cv_is {H : AH} {a : V} {Q : Bool → Prop} : cmpV H .is a .none Q = Q (isNone a) := rfl
theorem cv_isnot {H : AH} {a : V} {Q : Bool → Prop} : cmpV H .isnot a .none Q = Q (!isNone a) := rfl
/-! rows, however held -/
structure Inv (row : List Sy) (i : Nat) (L : List Rl) (c l : Rl → Nat) : Prop where
  hL : L = fo ((prs row).take i)
  inn : ∀ p ∈ L, c p + cntF p (decide (l p + 1 = i)) (row.drop i) = often p row ∧ l p < i
  out : ∀ p, p ∉ L → often p row = cntF p false (row.drop i)
noncomputable abbrev nf (c : Rl → Nat) : Rl → V := fun p => .int (c p : Int)
end Lib
end

section
set_option autoImplicit false
set_option linter.unusedSimpArgs false
set_option linter.unusedVariables false
namespace Lib
open PySem Mine

section
variable {tbl : Tbl} {gl : List (String × V)} {cls : Clss} {d : Nat} {H : AH} {Q : V → Prop} {X : String → Prop}

end
end Lib
end

section
set_option autoImplicit false
set_option linter.unusedSimpArgs false
set_option linter.unusedVariables false
namespace Lib
open PySem Mine

theorem pv_sub0 {H : AH} {p : Rl} {Q : V → Prop} : subV H (pv p) (.int 0) Q = Q p.1.v := rfl
theorem pv_sub1 {H : AH} {p : Rl} {Q : V → Prop} : subV H (pv p) (.int 1) Q = Q p.2.v := rfl

section
variable {tbl : Tbl} {gl : List (String × V)} {cls : Clss} {d : Nat} {H : AH} {Q : V → Prop} {X : String → Prop}

end
end Lib
end

section
set_option autoImplicit false
set_option linter.unusedSimpArgs false
set_option linter.unusedVariables false
namespace Lib
open PySem Mine

theorem items_lst {H : AH} (l : List Nat) : itemsV H (lst l) = some (l.map fun c => V.str ⟨#[c]⟩) := rfl
theorem size_lst {H : AH} (l : List Nat) : sizeV H (lst l) = some l.length := by simp [lst, Str.length]
section
variable {tbl : Tbl} {gl : List (String × V)} {cls : Clss} {d : Nat} {H : AH} {Q : V → Prop} {X : String → Prop}

theorem sp_text {l : List Nat} (h : tbl.lookup "is_text" = some F_is_text) (hs : gl.lookup "SIGNS" = some (.str SIGNS)) (hl : ∀ c ∈ l, c ∈ SG) (hq : Q (.bool true)) : (cxN tbl gl cls (d + 1)).call "is_text" [lst l] H Q X := by
  refine call_of h rfl (by decide) ?_
  unfold F_is_text
  have hi : isT H .str (lst l) = some true := rfl
  (refine wb_cons ?_; simp [eqV_int, sizeLine_val, idx_nat, idx_zero, idx_one, cxN_glob, ↓hi])
  refine wb_nil (wb_cons ?_)
  simp only [ws_0, ws_1, ws_2, ws_3, ws_4, ws_5, ws_6, ws_7, ws_8, ws_9, ws_10, ws_11, ws_12, ws_13, pk_ret, pk_next, wi_0, wi_1, wi_2, wi_3, wi_4, wi_5, wi_6, wi_7, rg1, rg2, rg3, we_0, we_1, we_2, we_3, we_4, we_5, we_6, we_7, we_8, we_9, we_10, we_11, we_12, we_13, we_14, we_15, we_16, we_17, we_18, we_19, we_20, we_21, we_22, we_23, we_24, we_25, we_26, we_27, we_28, we_29, we_30, we_31, we_32, we_33, we_34, we_35, List.map_cons, List.map_nil, List.cons_append, List.nil_append, List.replicate, List.getElem?_cons_zero, items_lst]
  refine ⟨.inl rfl, ?_⟩
  refine forL_ind (fun xs st => ∃ (r : List Nat) (x : Option V), (∀ c ∈ r, c ∈ SG) ∧ xs = r.map (fun c => V.str ⟨#[c]⟩) ∧ st = ⟨[some (lst l), x], H, H⟩) ?_ ?_ _ _ ⟨l, _, hl, rfl, rfl⟩
  · rintro v vs st ih ⟨r, x, hr, hv, rfl⟩
    cases r with
    | nil => cases hv
    | cons c r =>
    cases hv
    refine ⟨[some (lst l), some (.str ⟨#[c]⟩)], by simp only [lb_var, lp_0, lp_1, lp_2, lp_3, lp_4, lp_5, lp_6, lp_7, lp_8, lp_9, lp_10, lp_11, lp_12, lp_13], ?_⟩
    have hc := has_sign c (hr c (by simp))
    refine wb_cons ?_
    simp only [ws_0, ws_1, ws_2, ws_3, ws_4, ws_5, ws_6, ws_7, ws_8, ws_9, ws_10, ws_11, ws_12, ws_13, pk_ret, pk_next, we_0, we_1, we_2, we_3, we_4, we_5, we_6, we_7, we_8, we_9, we_10, we_11, we_12, we_13, we_14, we_15, we_16, we_17, we_18, we_19, we_20, we_21, we_22, we_23, we_24, we_25, we_26, we_27, we_28, we_29, we_30, we_31, we_32, we_33, we_34, we_35, wch_0, wch_1, List.getElem?_cons_zero, List.getElem?_cons_succ, cxN_glob, hs, cv_eq, cv_ne, cv_lt, cv_le, cv_gt, cv_ge, cv_isin, cv_notin, in_str, strP, hc, Bool.not_true, tv_none, tv_bool, tv_int, tv_str, tv_tup, tv_lst, tv_ref, tv_inst, tv_iref]
    exact wb_nil (wb_nil (ih _ ⟨r, _, fun c hc => hr c (by simp [hc]), rfl, rfl⟩))
  · rintro st ⟨r, x, hr, hv, rfl⟩
    refine wb_cons ?_
    simp only [ws_0, ws_1, ws_2, ws_3, ws_4, ws_5, ws_6, ws_7, ws_8, ws_9, ws_10, ws_11, ws_12, ws_13, pk_ret, pk_next, we_0, we_1, we_2, we_3, we_4, we_5, we_6, we_7, we_8, we_9, we_10, we_11, we_12, we_13, we_14, we_15, we_16, we_17, we_18, we_19, we_20, we_21, we_22, we_23, we_24, we_25, we_26, we_27, we_28, we_29, we_30, we_31, we_32, we_33, we_34, we_35, fz_zero, fz_none, fz_bool, fz_int, fz_str, fz_tup, fz_lst, fz_inst, fz_ref, fz_iref]
    exact hq

end
end Lib
end

section
set_option autoImplicit false
set_option linter.unusedSimpArgs false
set_option linter.unusedVariables false
namespace Lib
open PySem Mine

section
variable {tbl : Tbl} {gl : List (String × V)} {cls : Clss} {d : Nat} {H : AH} {Q : V → Prop} {X : String → Prop}

end
end Lib
end

section
set_option autoImplicit false
set_option linter.unusedSimpArgs false
set_option linter.unusedVariables false
namespace Lib
open PySem Mine

theorem slice_lst {H : AH} {l : List Nat} {lo hi : V} {a b : Nat} {Q : V → Prop} (ha : bnd l.length 0 lo = some a) (hb : bnd l.length l.length hi = some b) : sliceV H (lst l) lo hi Q = Q (lst (cutL l a b)) := by
  have e : (⟨l.toArray⟩ : Str).length = l.length := by simp [Str.length]
  show (match bnd (⟨l.toArray⟩ : Str).length 0 lo, bnd (⟨l.toArray⟩ : Str).length (⟨l.toArray⟩ : Str).length hi with
    | some l', some h => Q (.str ⟨(cutL (⟨l.toArray⟩ : Str).cps.toList l' h).toArray⟩)
    | _, _ => False) = _
  rw [e, ha, hb]; rfl
theorem bnd_none {n d : Nat} : bnd n d .none = some d := rfl
theorem bnd_int {n d : Nat} {i : Int} : bnd n d (.int i) = some (clip n i) := rfl
theorem cut_len {α : Type} (l : List α) (a b : Nat) : (cutL l a b).length ≤ b - a := by simp [cutL]; omega
theorem lst_plus {H : AH} {a b : List Nat} {Q : V → Prop} (h : a.length + b.length ≤ 16777216) (hq : Q (lst (a ++ b))) : binV H .add (lst a) (lst b) Q := by
  refine ⟨by rw [sizeLine_val]; simpa [Str.length] using h, ?_⟩
  have e : (⟨a.toArray⟩ ++ ⟨b.toArray⟩ : Str) = ⟨(a ++ b).toArray⟩ := by apply Str.ext'; simp [Str.cps_append]
  rw [e]; exact hq
theorem lst_times {H : AH} {a : List Nat} {n : Int} {Q : V → Prop} (h0 : 0 ≤ n) (h1 : n < 2 ^ 30) (h : a.length * n.toNat ≤ 16777216) (hq : Q (lst (repL n.toNat a))) : binV H .mul (lst a) (.int n) Q :=
  ⟨h0, h1, by rw [sizeLine_val]; simpa [Str.length] using h, hq⟩

section
variable {tbl : Tbl} {gl : List (String × V)} {cls : Clss} {d : Nat} {H : AH} {Q : V → Prop} {X : String → Prop}

end
end Lib
end

section
set_option autoImplicit false
set_option linter.unusedSimpArgs false
set_option linter.unusedVariables false
namespace Lib
open PySem Mine

noncomputable def sgn (c : Int) : Nat := SG.getD (c.fmod 95).toNat 0
section
variable {tbl : Tbl} {gl : List (String × V)} {cls : Clss} {d : Nat} {H : AH} {Q : V → Prop} {X : String → Prop}

/-- one name is set; what follows stays shut -/
theorem wb_asg {C : Cx} {i : Nat} {e : E} {b : Bl} {st : St} {Q : Fl → St → Prop} {X : String → St → Prop} (w : V) {ρ' : List (Option V)} (hv : ∀ Q' : V → Prop, Q' w → WE C e st Q' (fun x => X x st)) (hp : putV i w st.ρ = some ρ') (hb : WB C b { st with ρ := ρ' } Q X) : WB C (.cons (.assign (.var i) e) b) st Q X := by
  refine wb_cons (hv _ ?_)
  show (match putV i w st.ρ with
    | some ρ' => WB C b { st with ρ := ρ' } Q X
    | none => False)
  rw [hp]; exact hb
end
end Lib
end

section
set_option autoImplicit false
set_option linter.unusedSimpArgs false
set_option linter.unusedVariables false
namespace Lib
open PySem
/-! where a word stands in a text put together of two -/
noncomputable def at? (W t : List Nat) (k : Nat) : Bool := decide ((t.drop k).take W.length = W)
noncomputable def occs (W t : List Nat) : List Nat := (List.range t.length).filter (at? W t)
noncomputable def tl (m : Nat) (t : List Nat) : List Nat := t.drop (t.length - m)
noncomputable def near (m : Nat) (a b : List Nat) : List Nat := tl m a ++ b.take m
noncomputable def cross (W : List Nat) (m : Nat) (a b : List Nat) : List Nat := ((List.range (tl m a).length).filter (at? W (near m a b))).map fun k => a.length - (tl m a).length + k
theorem tl_len (m : Nat) (t : List Nat) : (tl m t).length = min m t.length := by rw [tl, List.length_drop]; omega
theorem filter_none {α : Type} {p : α → Bool} {l : List α} (h : ∀ x ∈ l, p x = false) : l.filter p = [] := by
  rw [List.filter_eq_nil_iff]
  intro x hx; rw [h x hx]; exact Bool.false_ne_true
theorem at_short {W t : List Nat} {k : Nat} (h : t.length < k + W.length) (hW : 0 < W.length) : at? W t k = false := by
  refine decide_eq_false fun e => ?_
  have := congrArg List.length e
  rw [List.length_take, List.length_drop] at this
  omega
theorem at_eq {W s t : List Nat} {j k : Nat} (h : (s.drop j).take W.length = (t.drop k).take W.length) : at? W s j = at? W t k := by
  unfold at?; rw [h]
theorem occs_append {W : List Nat} {m : Nat} (hm : W.length = m + 1) (a b : List Nat) : occs W (a ++ b) = occs W a ++ cross W m a b ++ (occs W b).map (a.length + ·) := by
  unfold occs cross
  have hl := tl_len m a
  obtain ⟨p, hp⟩ : ∃ p, a.length = p + (tl m a).length := ⟨a.length - (tl m a).length, by omega⟩
  have htl : tl m a = a.drop p := by rw [tl]; congr 1; omega
  have e1 : ∀ k, at? W (a ++ b) (a.length + k) = at? W b k := fun k => at_eq (by rw [← List.drop_drop, List.drop_left])
  have e2 : ∀ k, k < p → at? W (a ++ b) k = at? W a k := fun k hk => at_eq (by rw [List.drop_append_of_le_length (by omega), List.take_append_of_le_length (by rw [List.length_drop]; omega)])
  have e3 : ∀ j, j < (tl m a).length → at? W (a ++ b) (p + j) = at? W (near m a b) j := fun j hj => at_eq (by
    rw [near, List.drop_append_of_le_length (by omega), List.drop_append_of_le_length (by omega), ← List.drop_drop, ← htl, List.take_append, List.take_append, List.take_take]
    congr 2
    rw [List.length_drop]; omega)
  have e4 : ∀ j, at? W a (p + j) = false := fun j => at_short (by omega) (by omega)
  have h1 : (List.range a.length).filter (at? W a) = (List.range p).filter (at? W a) := by
    rw [hp, List.range_add, List.filter_append, List.filter_map, filter_none (p := at? W a ∘ fun x => p + x) (fun x _ => e4 x), List.map_nil, List.append_nil]
  have h2 : (List.range a.length).filter (at? W (a ++ b)) = (List.range p).filter (at? W a) ++ ((List.range (tl m a).length).filter (at? W (near m a b))).map (p + ·) := by
    rw [hp, List.range_add, List.filter_append, List.filter_map]
    congr 1
    · exact List.filter_congr fun k hk => e2 k (List.mem_range.mp hk)
    · congr 1
      exact List.filter_congr fun j hj => e3 j (List.mem_range.mp hj)
  rw [List.length_append, List.range_add, List.filter_append, List.filter_map, h2, h1]
  congr 2
  · rw [show a.length - (tl m a).length = p by omega]
  · congr 1
    exact funext fun k => e1 k
theorem occs_nil (W : List Nat) : occs W [] = [] := rfl
theorem occs_one {W : List Nat} {c : Nat} (h : 0 < W.length) : occs W [c] = if W = [c] then [0] else [] := by
  unfold occs
  show (List.filter (at? W [c]) [0]) = _
  by_cases e : W = [c]
  · subst e; rw [if_pos rfl]; simp [at?]
  · rw [if_neg e]
    refine filter_none fun x hx => ?_
    rw [List.mem_singleton.mp hx]
    refine decide_eq_false fun q => e ?_
    rw [List.drop_zero] at q
    rw [← q]
    refine List.take_of_length_le ?_
    show 1 ≤ W.length
    exact h
/-- the law's way to find them -/
theorem occs_law {W t : List Nat} {n : Nat} (hW : 0 < W.length) (hn : n ≤ t.length) (hn2 : t.length < n + W.length) : (List.range n).filter (at? W t) = occs W t := by
  unfold occs
  obtain ⟨q, hq⟩ : ∃ q, t.length = n + q := ⟨t.length - n, by omega⟩
  rw [hq, List.range_add, List.filter_append, List.filter_map, filter_none (p := at? W t ∘ fun x => n + x) (fun x _ => at_short (k := n + x) (by omega) hW), List.map_nil, List.append_nil]
/-- heads and tails -/
theorem head_long {m : Nat} {a b : List Nat} (h : m ≤ a.length) : (a ++ b).take m = a.take m := List.take_append_of_le_length h
theorem head_short {m : Nat} {a b : List Nat} (h : a.length < m) : (a.take m ++ b.take m).take m = (a ++ b).take m := by
  rw [List.take_of_length_le (Nat.le_of_lt h), List.take_append, List.take_append, List.take_take]
  congr 2; omega
theorem tail_long {m : Nat} {a b : List Nat} (h : m ≤ b.length) : tl m (a ++ b) = tl m b := by
  unfold tl
  rw [List.length_append, show a.length + b.length - m = a.length + (b.length - m) by omega, ← List.drop_drop, List.drop_left]
theorem tail_short {m : Nat} {a b : List Nat} (h : b.length < m) : (tl m a ++ tl m b).drop ((tl m a ++ tl m b).length - m) = tl m (a ++ b) := by
  have hb : tl m b = b := by rw [tl, show b.length - m = 0 by omega]; rfl
  have hl := tl_len m a
  rw [hb, List.length_append]
  unfold tl at hl ⊢
  rcases Nat.lt_or_ge a.length m with q | q
  · rw [show a.length - m = 0 by omega, List.drop_zero, List.length_append]
  · rw [List.length_append, hl, show min m a.length + b.length - m = b.length by omega, show a.length + b.length - m = (a.length - m) + b.length by omega, ← List.drop_drop, List.drop_append_of_le_length (l₁ := a) (by omega)]
theorem tl_one {m c : Nat} : tl m [c] = [c].take m := by
  cases m with
  | zero => rfl
  | succ m => unfold tl; rw [show [c].length - (m + 1) = 0 by simp]; simp
end Lib
end

section
set_option autoImplicit false
set_option linter.unusedSimpArgs false
set_option linter.unusedVariables false
namespace Lib
open PySem
noncomputable def F_piece_of : Fn := ⟨2, ["sign", "word", "most", "piece"], 4,
  (.cons (.assign (.var 2) (.bin .sub (.len (.var 1)) (.int 1)))
  (.cons (.own 3 (.new "Piece" (.cons (.int 1) (.cons (.slice (.var 0) .none (.var 2)) (.cons (.slice (.var 0) .none (.var 2)) .nil)))))
  (.cons (.ite (.cmp (.var 0) (.one .eq (.var 1))) (.cons (.setattr (.var 3) "times" (.int 1))
    (.cons (.setattr (.var 3) "first" (.int 0))
    .nil)) .nil)
  (.cons (.ret (.var 3))
  .nil))))⟩
noncomputable def F_crossing : Fn := ⟨3, ["left", "right", "word", "near", "found", "at"], 6,
  (.cons (.assign (.var 3) (.bin .add (.attr (.var 0) "tail") (.attr (.var 1) "head")))
  (.cons (.own 4 (.list .nil))
  (.cons (.for (.var 5) (.range1 (.len (.attr (.var 0) "tail"))) (.cons (.ite (.cmp (.slice (.var 3) (.var 5) (.bin .add (.var 5) (.len (.var 2)))) (.one .eq (.var 2))) (.cons (.append (.var 4) (.pure (.bin .add (.bin .sub (.attr (.var 0) "size") (.len (.attr (.var 0) "tail"))) (.var 5))))
      .nil) .nil)
    .nil))
  (.cons (.ret (.var 4))
  .nil))))⟩
noncomputable def F_two : Fn := ⟨3, ["left", "right", "word", "most", "head", "tail", "piece", "places", "both"], 9,
  (.cons (.assign (.var 3) (.bin .sub (.len (.var 2)) (.int 1)))
  (.cons (.assign (.var 4) (.slice (.bin .add (.attr (.var 0) "head") (.attr (.var 1) "head")) .none (.var 3)))
  (.cons (.ite (.cmp (.attr (.var 0) "size") (.one .ge (.var 3))) (.cons (.assign (.var 4) (.attr (.var 0) "head"))
    .nil) .nil)
  (.cons (.assign (.var 5) (.attr (.var 1) "tail"))
  (.cons (.ite (.cmp (.attr (.var 1) "size") (.one .lt (.var 3))) (.cons (.assign (.var 8) (.bin .add (.attr (.var 0) "tail") (.attr (.var 1) "tail")))
    (.cons (.assign (.var 5) (.slice (.var 8) (.max2 (.int 0) (.bin .sub (.len (.var 8)) (.var 3))) .none))
    .nil)) .nil)
  (.cons (.own 6 (.new "Piece" (.cons (.bin .add (.attr (.var 0) "size") (.attr (.var 1) "size")) (.cons (.var 4) (.cons (.var 5) .nil)))))
  (.cons (.assign (.var 7) (.call "crossing" (.cons (.var 0) (.cons (.var 1) (.cons (.var 2) .nil)))))
  (.cons (.setattr (.var 6) "times" (.bin .add (.bin .add (.attr (.var 0) "times") (.len (.var 7))) (.attr (.var 1) "times")))
  (.cons (.setattr (.var 6) "first" (.attr (.var 0) "first"))
  (.cons (.ite (.and (.cmp (.attr (.var 6) "first") (.one .is .none)) (.cmp (.len (.var 7)) (.one .gt (.int 0)))) (.cons (.setattr (.var 6) "first" (.sub (.var 7) (.int 0)))
    .nil) .nil)
  (.cons (.ite (.and (.cmp (.attr (.var 6) "first") (.one .is .none)) (.cmp (.attr (.var 1) "first") (.one .isnot .none))) (.cons (.setattr (.var 6) "first" (.bin .add (.attr (.var 0) "size") (.attr (.var 1) "first")))
    .nil) .nil)
  (.cons (.ret (.var 6))
  .nil))))))))))))⟩
noncomputable def F_piece_by : Fn := ⟨3, ["symbol", "pieces", "word"], 3,
  (.cons (.ite (.isinst (.var 0) .str) (.cons (.ret (.call "piece_of" (.cons (.var 0) (.cons (.var 2) .nil))))
    .nil) .nil)
  (.cons (.ret (.sub (.var 1) (.var 0)))
  .nil))⟩
noncomputable def F_whole : Fn := ⟨2, ["book", "word", "pieces", "rule", "found", "symbol"], 6,
  (.cons (.expr (.call "need_book" (.cons (.var 0) .nil)))
  (.cons (.ite (.or (.not (.call "is_text" (.cons (.var 1) .nil))) (.not (.cmp (.int 1) (.more .le (.len (.var 1)) (.one .le (.glob "MOST_WORD")))))) (.cons (.raise "NoWord" (.str (Str.ofString "no word of 1 to 200 signs")))
    .nil) .nil)
  (.cons (.own 2 (.list .nil))
  (.cons (.for (.var 3) (.seq (.sub (.var 0) (.int 0))) (.cons (.append (.var 2) (.pure (.call "two" (.cons (.call "piece_by" (.cons (.sub (.var 3) (.int 0)) (.cons (.var 2) (.cons (.var 1) .nil)))) (.cons (.call "piece_by" (.cons (.sub (.var 3) (.int 1)) (.cons (.var 2) (.cons (.var 1) .nil)))) (.cons (.var 1) .nil))))))
    .nil))
  (.cons (.assign (.var 4) (.new "Piece" (.cons (.int 0) (.cons (.str (Str.ofString "")) (.cons (.str (Str.ofString "")) .nil)))))
  (.cons (.for (.var 5) (.seq (.sub (.var 0) (.int 1))) (.cons (.assign (.var 4) (.call "two" (.cons (.var 4) (.cons (.call "piece_by" (.cons (.var 5) (.cons (.var 2) (.cons (.var 1) .nil)))) (.cons (.var 1) .nil)))))
    .nil))
  (.cons (.ret (.var 4))
  .nil)))))))⟩
noncomputable def F_how_often : Fn := ⟨2, ["book", "word"], 2,
  (.cons (.ret (.attr (.call "whole" (.cons (.var 0) (.cons (.var 1) .nil))) "times"))
  .nil)⟩
noncomputable def F_first_place : Fn := ⟨2, ["book", "word"], 2,
  (.cons (.ret (.attr (.call "whole" (.cons (.var 0) (.cons (.var 1) .nil))) "first"))
  .nil)⟩
noncomputable def F_law_word : Fn := ⟨3, ["_law_text", "_law_script", "_law_first_cell", "_law_cell", "_law_more", "_law_start", "_law_size_here", "_law_word_here", "_law_spot"], 9,
  (.cons (.assign (.var 3) (.call "_law_cell_at" (.cons (.var 1) (.cons (.int 1) .nil))))
  (.cons (.assign (.var 4) (.call "_law_cell_at" (.cons (.var 1) (.cons (.int 2) .nil))))
  (.cons (.ite (.or (.cmp (.var 0) (.one .eq (.str (Str.ofString "")))) (.cmp (.bin .mod (.var 4) (.int 5)) (.one .eq (.int 4)))) (.cons (.ret (.bin .mul (.call "_law_sign_by" (.cons (.var 2) .nil)) (.bin .add (.int 1) (.bin .mod (.var 3) (.int 200)))))
    .nil) .nil)
  (.cons (.assign (.var 5) (.bin .mod (.var 3) (.len (.var 0))))
  (.cons (.assign (.var 6) (.bin .add (.int 1) (.bin .mod (.bin .fdiv (.var 4) (.int 5)) (.int 8))))
  (.cons (.ite (.cmp (.bin .mod (.var 4) (.int 5)) (.one .eq (.int 3))) (.cons (.assign (.var 6) (.bin .add (.int 1) (.bin .mod (.bin .fdiv (.var 4) (.int 5)) (.int 200))))
    .nil) .nil)
  (.cons (.assign (.var 7) (.slice (.var 0) (.var 5) (.bin .add (.var 5) (.var 6))))
  (.cons (.ite (.cmp (.bin .mod (.var 4) (.int 5)) (.one .eq (.int 2))) (.cons (.assign (.var 8) (.bin .mod (.bin .fdiv (.var 4) (.int 40)) (.len (.var 7))))
    (.cons (.assign (.var 7) (.bin .add (.bin .add (.slice (.var 7) .none (.var 8)) (.call "_law_sign_by" (.cons (.bin .fdiv (.var 4) (.int 40)) .nil))) (.slice (.var 7) (.bin .add (.var 8) (.int 1)) .none)))
    .nil)) .nil)
  (.cons (.ret (.var 7))
  .nil)))))))))⟩
noncomputable def F_law_places : Fn := ⟨2, ["_law_text", "_law_word_here"], 3,
  (.cons (.ret (.compIf (.var 2) (.var 2) (.range1 (.bin .add (.bin .sub (.len (.var 0)) (.len (.var 1))) (.int 1))) (.cmp (.slice (.var 0) (.var 2) (.bin .add (.var 2) (.len (.var 1)))) (.one .eq (.var 1)))))
  .nil)⟩

noncomputable def pn : List String := ["size", "head", "tail", "times", "first"]
noncomputable def ctb (ad : Nat) : Clss := [("Piece", ad, 3, [("size", .arg 0), ("head", .arg 1), ("tail", .arg 2), ("times", .val (.int 0)), ("first", .val .none)])]
noncomputable def fV : Option Nat → V
  | some k => .int k
  | none => .none
noncomputable def pcV (ad : Nat) (W t : List Nat) : V := .inst ad pn [.int t.length, lst (t.take (W.length - 1)), lst (tl (W.length - 1) t), .int (occs W t).length, fV (occs W t).head?]
section
variable {tbl : Tbl} {gl : List (String × V)} {ad d : Nat} {H : AH} {Q : V → Prop} {X : String → Prop}
theorem cls_pc : (cxN tbl gl (ctb ad) d).cls "Piece" = some (ad, 3, [("size", .arg 0), ("head", .arg 1), ("tail", .arg 2), ("times", .val (.int 0)), ("first", .val .none)]) := rfl
theorem has_pc : (cxN tbl gl (ctb ad) d).has ad pn = true := by simp [cxN, hasC, ctb, pn]
theorem aL0 {a b c e f : V} : attrL "size" pn [a, b, c, e, f] = some a := by simp [attrL, pn]
theorem aL1 {a b c e f : V} : attrL "head" pn [a, b, c, e, f] = some b := by simp [attrL, pn]
theorem aL2 {a b c e f : V} : attrL "tail" pn [a, b, c, e, f] = some c := by simp [attrL, pn]
theorem aL3 {a b c e f : V} : attrL "times" pn [a, b, c, e, f] = some e := by simp [attrL, pn]
theorem aL4 {a b c e f : V} : attrL "first" pn [a, b, c, e, f] = some f := by simp [attrL, pn]
theorem sL3 {a b c e f v : V} : setAttrL "times" v pn [a, b, c, e, f] = some [a, b, c, v, f] := by simp [setAttrL, pn]
theorem sL4 {a b c e f v : V} : setAttrL "first" v pn [a, b, c, e, f] = some [a, b, c, e, v] := by simp [setAttrL, pn]
theorem eqV_lst {a b : List Nat} {Q : Bool → Prop} : eqV H (lst a) (lst b) Q = Q (decide (a = b)) := by
  unfold lst
  rw [eqV_str]
  congr 1
  rw [decide_eq_decide]
  constructor
  · intro e
    have := congrArg (fun s => s.cps.toList) e
    simpa using this
  · rintro rfl; rfl
theorem cut_at {t : List Nat} {k w : Nat} (h : k ≤ t.length) : cutL t (clip t.length (k : Int)) (clip t.length ((k : Int) + (w : Int))) = (t.drop k).take w := by
  have e1 : clip t.length (k : Int) = k := by simp only [clip]; rw [if_neg (by omega)]; omega
  have e2 : clip t.length ((k : Int) + (w : Int)) = min (k + w) t.length := by simp only [clip]; rw [if_neg (by omega)]; omega
  rw [e1, e2, cutL]
  rcases Nat.lt_or_ge (k + w) t.length with q | q
  · congr 1; omega
  · rw [List.take_of_length_le (by rw [List.length_drop]; omega), List.take_of_length_le (by rw [List.length_drop]; omega)]
theorem take_clip {t : List Nat} {m : Nat} : cutL t 0 (clip t.length (m : Int)) = t.take m := by
  have e2 : clip t.length (m : Int) = min m t.length := by simp only [clip]; rw [if_neg (by omega)]; omega
  rw [e2, cutL, List.drop_zero, Nat.sub_zero]
  rcases Nat.lt_or_ge m t.length with q | q
  · congr 1; omega
  · rw [List.take_of_length_le (by omega), List.take_of_length_le q]
theorem epn : ["size", "head", "tail", "times", "first"] = pn := rfl
/-- a field is set -/
theorem wb_setf {C : Cx} {i c a : Nat} {n : String} {ns : List String} {e : E} {b : Bl} {st : St} {Q : Fl → St → Prop} {X : String → St → Prop} {vs vs' : List V} (w : V) (hρ : st.ρ[i]? = some (some (.iref c ns a))) (hB : st.B a = none) (hH : st.H a = some (.inst c ns vs)) (hh : C.has c ns = true)
    (hv : ∀ Q' : V → Prop, Q' w → WE C e st Q' (fun x => X x st)) (hs : setAttrL n w ns vs = some vs') (hb : ∀ H', H' a = some (.inst c ns vs') → WB C b { st with H := H' } Q X) : WB C (.cons (.setattr (.var i) n e) b) st Q X := by
  refine wb_cons (hv _ ?_)
  simp only [we_0, we_1, we_2, we_3, we_4, we_5, we_6, we_7, we_8, we_9, we_10, we_11, we_12, we_13, we_14, we_15, we_16, we_17, we_18, we_19, we_20, we_21, we_22, we_23, we_24, we_25, we_26, we_27, we_28, we_29, we_30, we_31, we_32, we_33, we_34, we_35, hρ, hH, hs]
  refine ⟨hB, hh, trivial, trivial, hb _ ?_⟩
  rw [upd_at, if_pos rfl]
theorem ret_pc {ρ : List (Option V)} {H' B : AH} {a : Nat} {s n : Int} {hd t : List Nat} {o : Option Nat} (ha : H a = none) (h : H' a = some (.inst ad pn [.int s, lst hd, lst t, .int n, fV o])) (hq : Q (.inst ad pn [.int s, lst hd, lst t, .int n, fV o])) : PK H Q (.ret (.iref ad pn a)) ⟨ρ, H', B⟩ := by
  have e : frz H' H 8 (.iref ad pn a) = some (.inst ad pn [.int s, lst hd, lst t, .int n, fV o]) := by
    rw [fz_iref, ha, h]
    cases o <;> rfl
  rw [pk_ret, e]; exact hq
theorem sp_piece_of {W : List Nat} {c : Nat} (h : tbl.lookup "piece_of" = some F_piece_of) (hW : 0 < W.length) (hq : Q (pcV ad W [c])) : (cxN tbl gl (ctb ad) (d + 1)).call "piece_of" [lst [c], lst W] H Q X := by
  refine call_of h rfl (by decide) ?_
  show WB _ F_piece_of.body ⟨[some (lst [c]), some (lst W), none, none], H, H⟩ _ _
  unfold F_piece_of
  have hm : ((W.length : Int) - 1) = ((W.length - 1 : Nat) : Int) := by omega
  refine wb_asg (.int ((W.length - 1 : Nat) : Int)) (fun Q' hq => ?_) rfl ?_
  · simp only [we_0, we_1, we_2, we_3, we_4, we_5, we_6, we_7, we_8, we_9, we_10, we_11, we_12, we_13, we_14, we_15, we_16, we_17, we_18, we_19, we_20, we_21, we_22, we_23, we_24, we_25, we_26, we_27, we_28, we_29, we_30, we_31, we_32, we_33, we_34, we_35, List.getElem?_cons_zero, List.getElem?_cons_succ, zv_none, zv_bool, zv_int, zv_str, zv_tup, zv_lst, zv_ref, zv_inst, zv_iref, lst, lst_len, bv_add, bv_adds, bv_addl, bv_sub, bv_mul, bv_fdiv, bv_mod, bv_mull, bv_muls, intP]
    rw [hm]; exact hq
  simp only [List.set_cons_zero, List.set_cons_succ]
  refine wb_cons ?_
  simp only [ws_0, ws_1, ws_2, ws_3, ws_4, ws_5, ws_6, ws_7, ws_8, ws_9, ws_10, ws_11, ws_12, ws_13, pk_ret, pk_next, wa_0, wa_1, wa_2, wa_3, wa_4, cls_pc, wes_0, wes_1, we_0, we_1, we_2, we_3, we_4, we_5, we_6, we_7, we_8, we_9, we_10, we_11, we_12, we_13, we_14, we_15, we_16, we_17, we_18, we_19, we_20, we_21, we_22, we_23, we_24, we_25, we_26, we_27, we_28, we_29, we_30, we_31, we_32, we_33, we_34, we_35, List.getElem?_cons_zero, List.getElem?_cons_succ]
  rw [slice_lst bnd_none bnd_int, slice_lst bnd_none bnd_int, take_clip]
  refine ⟨rfl, fun a ha => ?_⟩
  have ha2 : H a = none := ha.2
  simp only [lp_0, lp_1, lp_2, lp_3, lp_4, lp_5, lp_6, lp_7, lp_8, lp_9, lp_10, lp_11, lp_12, lp_13, List.map_cons, List.map_nil, iniV, List.getElem?_cons_zero, List.getElem?_cons_succ, Option.getD_some, epn]
  have e0 : pcV ad W [c] = .inst ad pn [.int 1, lst ([c].take (W.length - 1)), lst ([c].take (W.length - 1)), .int (occs W [c]).length, fV (occs W [c]).head?] := by rw [pcV, tl_one]; rfl
  rw [e0, occs_one hW] at hq
  have u1 : (H.upd a (.inst ad pn [.int 1, lst ([c].take (W.length - 1)), lst ([c].take (W.length - 1)), .int 0, .none])) a = some (.inst ad pn [.int 1, lst ([c].take (W.length - 1)), lst ([c].take (W.length - 1)), .int 0, .none]) := by rw [upd_at, if_pos rfl]
  generalize H.upd a (.inst ad pn [.int 1, lst ([c].take (W.length - 1)), lst ([c].take (W.length - 1)), .int 0, .none]) = H1 at u1 ⊢
  refine wb_cons ?_
  simp only [ws_0, ws_1, ws_2, ws_3, ws_4, ws_5, ws_6, ws_7, ws_8, ws_9, ws_10, ws_11, ws_12, ws_13, pk_ret, pk_next, we_0, we_1, we_2, we_3, we_4, we_5, we_6, we_7, we_8, we_9, we_10, we_11, we_12, we_13, we_14, we_15, we_16, we_17, we_18, we_19, we_20, we_21, we_22, we_23, we_24, we_25, we_26, we_27, we_28, we_29, we_30, we_31, we_32, we_33, we_34, we_35, wch_0, wch_1, List.getElem?_cons_zero, List.getElem?_cons_succ, cv_eq, cv_ne, cv_lt, cv_le, cv_gt, cv_ge, cv_isin, cv_notin, eqV_lst]
  by_cases e : [c] = W
  · rw [decide_eq_true e]
    rw [if_pos e.symm] at hq
    simp only [tv_none, tv_bool, tv_int, tv_str, tv_tup, tv_lst, tv_ref, tv_inst, tv_iref]
    refine wb_setf (.int 1) rfl ha2 u1 has_pc (fun Q' h => h) sL3 fun H2 u2 => ?_
    refine wb_setf (.int 0) rfl ha2 u2 has_pc (fun Q' h => h) sL4 fun H3 u3 => ?_
    refine wb_nil (wb_cons ?_)
    show PK H Q (.ret (.iref ad pn a)) ⟨_, H3, H⟩
    exact ret_pc (n := 1) (o := some 0) ha2 u3 hq
  · rw [decide_eq_false e]
    rw [if_neg (fun q => e q.symm)] at hq
    simp only [tv_none, tv_bool, tv_int, tv_str, tv_tup, tv_lst, tv_ref, tv_inst, tv_iref]
    refine wb_nil (wb_cons ?_)
    show PK H Q (.ret (.iref ad pn a)) ⟨_, H1, H⟩
    exact ret_pc (n := 0) (o := none) ha2 u1 hq
theorem frz_ints {B : AH} {n : Nat} : ∀ {l : List Nat} {f : Nat → Int}, frzs H B (n + 1) (l.map fun k => V.int (f k)) = some (l.map fun k => V.int (f k)) := fun {l f} => by
  induction l with
  | nil => rfl
  | cons k l ih => rw [List.map_cons, fzs_cons, ih]; rfl
theorem sp_crossing {W hb ta : List Nat} {sa na sb nb : Int} {ha tb : List Nat} {fa fb : V} (h : tbl.lookup "crossing" = some F_crossing) (hl : ta.length + hb.length ≤ 1000000)
    (hq : Q (.lst (((List.range ta.length).filter (at? W (ta ++ hb))).map fun (k : Nat) => V.int (sa - ta.length + k)))) :
    (cxN tbl gl (ctb ad) (d + 1)).call "crossing" [.inst ad pn [.int sa, lst ha, lst ta, .int na, fa], .inst ad pn [.int sb, lst hb, lst tb, .int nb, fb], lst W] H Q X := by
  refine call_of h rfl (by decide) ?_
  show WB _ F_crossing.body ⟨[some (.inst ad pn [.int sa, lst ha, lst ta, .int na, fa]), some (.inst ad pn [.int sb, lst hb, lst tb, .int nb, fb]), some (lst W), none, none, none], H, H⟩ _ _
  unfold F_crossing
  refine wb_asg (lst (ta ++ hb)) (fun Q' hq => ?_) rfl ?_
  · simp only [we_0, we_1, we_2, we_3, we_4, we_5, we_6, we_7, we_8, we_9, we_10, we_11, we_12, we_13, we_14, we_15, we_16, we_17, we_18, we_19, we_20, we_21, we_22, we_23, we_24, we_25, we_26, we_27, we_28, we_29, we_30, we_31, we_32, we_33, we_34, we_35, List.getElem?_cons_zero, List.getElem?_cons_succ, has_pc, aL2, aL1, true_and]
    exact lst_plus (by omega) hq
  simp only [List.set_cons_zero, List.set_cons_succ]
  refine wb_cons ?_
  simp only [ws_0, ws_1, ws_2, ws_3, ws_4, ws_5, ws_6, ws_7, ws_8, ws_9, ws_10, ws_11, ws_12, ws_13, pk_ret, pk_next, wa_0, wa_1, wa_2, wa_3, wa_4, was_0, was_1]
  refine ⟨by decide, fun a ha1 ha2 => ?_⟩
  simp only [lp_0, lp_1, lp_2, lp_3, lp_4, lp_5, lp_6, lp_7, lp_8, lp_9, lp_10, lp_11, lp_12, lp_13]
  refine wb_cons ?_
  simp only [ws_0, ws_1, ws_2, ws_3, ws_4, ws_5, ws_6, ws_7, ws_8, ws_9, ws_10, ws_11, ws_12, ws_13, pk_ret, pk_next, wi_0, wi_1, wi_2, wi_3, wi_4, wi_5, wi_6, wi_7, rg1, rg2, rg3, we_0, we_1, we_2, we_3, we_4, we_5, we_6, we_7, we_8, we_9, we_10, we_11, we_12, we_13, we_14, we_15, we_16, we_17, we_18, we_19, we_20, we_21, we_22, we_23, we_24, we_25, we_26, we_27, we_28, we_29, we_30, we_31, we_32, we_33, we_34, we_35, List.getElem?_cons_zero, List.getElem?_cons_succ, has_pc, aL2, true_and, zv_none, zv_bool, zv_int, zv_str, zv_tup, zv_lst, zv_ref, zv_inst, zv_iref, lst, lst_len, rng1, intP]
  refine ⟨by unfold smallI; omega, .inr nofun, ?_⟩
  refine forL_ind (fun xs st => ∃ (k : Nat) (x : Option V) (H' : AH), k ≤ ta.length ∧ xs = upL k ta.length ∧ H' a = some (.list (((List.range k).filter (at? W (ta ++ hb))).map fun (k : Nat) => V.int (sa - ta.length + k))) ∧
      st = ⟨[some (.inst ad pn [.int sa, lst ha, lst ta, .int na, fa]), some (.inst ad pn [.int sb, lst hb, lst tb, .int nb, fb]), some (lst W), some (lst (ta ++ hb)), some (.ref a), x], H', H⟩) ?_ ?_ _ _ ⟨0, _, _, Nat.zero_le _, rfl, by rw [upd_at, if_pos rfl]; rfl, rfl⟩
  · rintro v vs st ih ⟨k, x, H', hk, hv, h1, rfl⟩
    have hlt : (k : Int) < ta.length := by
      rcases Int.lt_or_le k ta.length with q | q
      · exact q
      · rw [upL_nil q] at hv; cases hv
    rw [upL_cons hlt] at hv
    cases hv
    refine ⟨[some (.inst ad pn [.int sa, lst ha, lst ta, .int na, fa]), some (.inst ad pn [.int sb, lst hb, lst tb, .int nb, fb]), some (lst W), some (lst (ta ++ hb)), some (.ref a), some (.int k)], by simp only [lb_var, lp_0, lp_1, lp_2, lp_3, lp_4, lp_5, lp_6, lp_7, lp_8, lp_9, lp_10, lp_11, lp_12, lp_13], ?_⟩
    have hf : (List.range (k + 1)).filter (at? W (ta ++ hb)) = (List.range k).filter (at? W (ta ++ hb)) ++ if at? W (ta ++ hb) k then [k] else [] := by
      rw [List.range_succ, List.filter_append]
      congr 1
      cases e : at? W (ta ++ hb) k <;> simp [e]
    refine wb_cons ?_
    have hW : sizeV H' (lst W) = some W.length := by show some _ = _; rw [lst_len]
    simp only [ws_0, ws_1, ws_2, ws_3, ws_4, ws_5, ws_6, ws_7, ws_8, ws_9, ws_10, ws_11, ws_12, ws_13, pk_ret, pk_next, we_0, we_1, we_2, we_3, we_4, we_5, we_6, we_7, we_8, we_9, we_10, we_11, we_12, we_13, we_14, we_15, we_16, we_17, we_18, we_19, we_20, we_21, we_22, we_23, we_24, we_25, we_26, we_27, we_28, we_29, we_30, we_31, we_32, we_33, we_34, we_35, wch_0, wch_1, List.getElem?_cons_zero, List.getElem?_cons_succ, hW, bv_add, bv_adds, bv_addl, bv_sub, bv_mul, bv_fdiv, bv_mod, bv_mull, bv_muls, addV, intP]
    rw [slice_lst bnd_int bnd_int, cut_at (by rw [List.length_append]; omega)]
    simp only [cv_eq, cv_ne, cv_lt, cv_le, cv_gt, cv_ge, cv_isin, cv_notin, eqV_lst]
    cases e : at? W (ta ++ hb) k with
    | true =>
      rw [decide_eq_true (of_decide_eq_true e)]
      simp only [tv_none, tv_bool, tv_int, tv_str, tv_tup, tv_lst, tv_ref, tv_inst, tv_iref]
      refine wb_cons ?_
      have hT : sizeV H' (lst ta) = some ta.length := by show some _ = _; rw [lst_len]
      simp only [ws_0, ws_1, ws_2, ws_3, ws_4, ws_5, ws_6, ws_7, ws_8, ws_9, ws_10, ws_11, ws_12, ws_13, pk_ret, pk_next, we_0, we_1, we_2, we_3, we_4, we_5, we_6, we_7, we_8, we_9, we_10, we_11, we_12, we_13, we_14, we_15, we_16, we_17, we_18, we_19, we_20, we_21, we_22, we_23, we_24, we_25, we_26, we_27, we_28, we_29, we_30, we_31, we_32, we_33, we_34, we_35, wa_0, wa_1, wa_2, wa_3, wa_4, List.getElem?_cons_zero, List.getElem?_cons_succ, has_pc, aL0, aL2, true_and, hT, bv_add, bv_adds, bv_addl, bv_sub, bv_mul, bv_fdiv, bv_mod, bv_mull, bv_muls, addV, intP, h1]
      refine ⟨ha2, ?_, ?_⟩
      · rw [sizeLine_val, List.length_map]
        have := List.length_filter_le (at? W (ta ++ hb)) (List.range k)
        rw [List.length_range] at this
        omega
      refine wb_nil (wb_nil (ih _ ⟨k + 1, _, _, by omega, rfl, ?_, rfl⟩))
      rw [upd_at, if_pos rfl, hf, e, if_pos rfl, List.map_append]; rfl
    | false =>
      rw [decide_eq_false (of_decide_eq_false e)]
      simp only [tv_none, tv_bool, tv_int, tv_str, tv_tup, tv_lst, tv_ref, tv_inst, tv_iref]
      refine wb_nil (wb_nil (ih _ ⟨k + 1, _, _, by omega, rfl, ?_, rfl⟩))
      rw [hf, e, if_neg Bool.false_ne_true, List.append_nil]; exact h1
  · rintro st ⟨k, x, H', hk, hv, h1, rfl⟩
    have hk : k = ta.length := by
      rcases Int.lt_or_le k ta.length with q | q
      · rw [upL_cons q] at hv; cases hv
      · omega
    subst hk
    refine wb_cons ?_
    have e : frz H' H 8 (.ref a) = some (.lst (((List.range ta.length).filter (at? W (ta ++ hb))).map fun (k : Nat) => V.int (sa - ta.length + k))) := by
      rw [fz_ref, ha2, h1]
      show (frzs H' H 7 _).map V.lst = _
      rw [frz_ints]; rfl
    simp only [ws_0, ws_1, ws_2, ws_3, ws_4, ws_5, ws_6, ws_7, ws_8, ws_9, ws_10, ws_11, ws_12, ws_13, pk_ret, pk_next, we_0, we_1, we_2, we_3, we_4, we_5, we_6, we_7, we_8, we_9, we_10, we_11, we_12, we_13, we_14, we_15, we_16, we_17, we_18, we_19, we_20, we_21, we_22, we_23, we_24, we_25, we_26, we_27, we_28, we_29, we_30, we_31, we_32, we_33, we_34, we_35, List.getElem?_cons_zero, List.getElem?_cons_succ, e]
    exact hq
theorem isNone_fV {o : Option Nat} : isNone (fV o) = o.isNone := by cases o <;> rfl
/-- the end of two: which is the first -/
theorem sp_two_end {a n : Nat} {H1 : AH} {sa sb na nb s t : Int} {A1 A2 A3 A4 hd tt : List Nat} {oa ob : Option Nat} {xs : List Nat} {w x4 x5 x8 m : Option V} (ha2 : H a = none) (u : H1 a = some (.inst ad pn [.int s, lst hd, lst tt, .int t, .none]))
    (hq : ∀ o : Option Nat, o = (match oa with
      | some k => some k
      | none => (match xs.head? with
        | some k => some k
        | none => ob.map (n + ·))) → Q (.inst ad pn [.int s, lst hd, lst tt, .int t, fV o])) :
    WB (cxN tbl gl (ctb ad) d) (.cons (.setattr (.var 6) "first" (.attr (.var 0) "first"))
  (.cons (.ite (.and (.cmp (.attr (.var 6) "first") (.one .is .none)) (.cmp (.len (.var 7)) (.one .gt (.int 0)))) (.cons (.setattr (.var 6) "first" (.sub (.var 7) (.int 0)))
    .nil) .nil)
  (.cons (.ite (.and (.cmp (.attr (.var 6) "first") (.one .is .none)) (.cmp (.attr (.var 1) "first") (.one .isnot .none))) (.cons (.setattr (.var 6) "first" (.bin .add (.attr (.var 0) "size") (.attr (.var 1) "first")))
    .nil) .nil)
  (.cons (.ret (.var 6))
  .nil)))) ⟨[some (.inst ad pn [.int n, lst A1, lst A2, .int na, fV oa]), some (.inst ad pn [.int sb, lst A3, lst A4, .int nb, fV ob]), w, m, x4, x5, some (.iref ad pn a), some (.lst (xs.map fun (k : Nat) => V.int k)), x8], H1, H⟩ (PK H Q) (fun x _ => X x) := by
  refine wb_setf (fV oa) rfl ha2 u has_pc (fun Q' h => ?_) sL4 fun H2 u2 => ?_
  · simp only [we_0, we_1, we_2, we_3, we_4, we_5, we_6, we_7, we_8, we_9, we_10, we_11, we_12, we_13, we_14, we_15, we_16, we_17, we_18, we_19, we_20, we_21, we_22, we_23, we_24, we_25, we_26, we_27, we_28, we_29, we_30, we_31, we_32, we_33, we_34, we_35, List.getElem?_cons_zero, List.getElem?_cons_succ, has_pc, aL4, true_and]; exact h
  refine wb_cons ?_
  simp only [ws_0, ws_1, ws_2, ws_3, ws_4, ws_5, ws_6, ws_7, ws_8, ws_9, ws_10, ws_11, ws_12, ws_13, pk_ret, pk_next, we_0, we_1, we_2, we_3, we_4, we_5, we_6, we_7, we_8, we_9, we_10, we_11, we_12, we_13, we_14, we_15, we_16, we_17, we_18, we_19, we_20, we_21, we_22, we_23, we_24, we_25, we_26, we_27, we_28, we_29, we_30, we_31, we_32, we_33, we_34, we_35, wch_0, wch_1, List.getElem?_cons_zero, List.getElem?_cons_succ, u2, has_pc, aL4, true_and, cv_is, isNone_fV]
  cases oa with
  | some k =>
    simp only [Option.isNone_some, tv_none, tv_bool, tv_int, tv_str, tv_tup, tv_lst, tv_ref, tv_inst, tv_iref]
    refine wb_nil (wb_cons ?_)
    simp only [ws_0, ws_1, ws_2, ws_3, ws_4, ws_5, ws_6, ws_7, ws_8, ws_9, ws_10, ws_11, ws_12, ws_13, pk_ret, pk_next, we_0, we_1, we_2, we_3, we_4, we_5, we_6, we_7, we_8, we_9, we_10, we_11, we_12, we_13, we_14, we_15, we_16, we_17, we_18, we_19, we_20, we_21, we_22, we_23, we_24, we_25, we_26, we_27, we_28, we_29, we_30, we_31, we_32, we_33, we_34, we_35, wch_0, wch_1, List.getElem?_cons_zero, List.getElem?_cons_succ, u2, has_pc, aL4, true_and, cv_is, isNone_fV, Option.isNone_some, tv_none, tv_bool, tv_int, tv_str, tv_tup, tv_lst, tv_ref, tv_inst, tv_iref]
    refine wb_nil (wb_cons ?_)
    show PK H Q (.ret (.iref ad pn a)) ⟨_, H2, H⟩
    exact ret_pc (o := some k) ha2 u2 (hq _ rfl)
  | none =>
    simp only [Option.isNone_none, tv_none, tv_bool, tv_int, tv_str, tv_tup, tv_lst, tv_ref, tv_inst, tv_iref, we_0, we_1, we_2, we_3, we_4, we_5, we_6, we_7, we_8, we_9, we_10, we_11, we_12, we_13, we_14, we_15, we_16, we_17, we_18, we_19, we_20, we_21, we_22, we_23, we_24, we_25, we_26, we_27, we_28, we_29, we_30, we_31, we_32, we_33, we_34, we_35, wch_0, wch_1, List.getElem?_cons_zero, List.getElem?_cons_succ, zv_none, zv_bool, zv_int, zv_str, zv_tup, zv_lst, zv_ref, zv_inst, zv_iref, List.length_map, cv_eq, cv_ne, cv_lt, cv_le, cv_gt, cv_ge, cv_isin, cv_notin, intP]
    cases xs with
    | cons k xs =>
      rw [decide_eq_true (show ((k :: xs).length : Int) > 0 by simp only [List.length_cons]; omega)]
      simp only [tv_none, tv_bool, tv_int, tv_str, tv_tup, tv_lst, tv_ref, tv_inst, tv_iref]
      refine wb_setf (fV (some k)) rfl ha2 u2 has_pc (fun Q' h => ?_) sL4 fun H3 u3 => ?_
      · have hi : idx (V.int (k : Int) :: List.map (fun (k : Nat) => V.int k) xs).length 0 = some 0 := idx_nat (n := (V.int (k : Int) :: List.map (fun (k : Nat) => V.int k) xs).length) (k := 0) (by simp)
        simp only [we_0, we_1, we_2, we_3, we_4, we_5, we_6, we_7, we_8, we_9, we_10, we_11, we_12, we_13, we_14, we_15, we_16, we_17, we_18, we_19, we_20, we_21, we_22, we_23, we_24, we_25, we_26, we_27, we_28, we_29, we_30, we_31, we_32, we_33, we_34, we_35, List.getElem?_cons_zero, List.getElem?_cons_succ, sb_tup, sb_lst, sb_str, sb_ref, List.map_cons, hi]
        exact h
      refine wb_nil (wb_cons ?_)
      simp only [ws_0, ws_1, ws_2, ws_3, ws_4, ws_5, ws_6, ws_7, ws_8, ws_9, ws_10, ws_11, ws_12, ws_13, pk_ret, pk_next, we_0, we_1, we_2, we_3, we_4, we_5, we_6, we_7, we_8, we_9, we_10, we_11, we_12, we_13, we_14, we_15, we_16, we_17, we_18, we_19, we_20, we_21, we_22, we_23, we_24, we_25, we_26, we_27, we_28, we_29, we_30, we_31, we_32, we_33, we_34, we_35, wch_0, wch_1, List.getElem?_cons_zero, List.getElem?_cons_succ, u3, has_pc, aL4, true_and, cv_is, isNone_fV, Option.isNone_some, tv_none, tv_bool, tv_int, tv_str, tv_tup, tv_lst, tv_ref, tv_inst, tv_iref]
      refine wb_nil (wb_cons ?_)
      show PK H Q (.ret (.iref ad pn a)) ⟨_, H3, H⟩
      exact ret_pc (o := some k) ha2 u3 (hq _ rfl)
    | nil =>
      rw [decide_eq_false (show ¬ ((([] : List Nat).length : Nat) : Int) > 0 by simp)]
      simp only [tv_none, tv_bool, tv_int, tv_str, tv_tup, tv_lst, tv_ref, tv_inst, tv_iref]
      refine wb_nil (wb_cons ?_)
      simp only [ws_0, ws_1, ws_2, ws_3, ws_4, ws_5, ws_6, ws_7, ws_8, ws_9, ws_10, ws_11, ws_12, ws_13, pk_ret, pk_next, we_0, we_1, we_2, we_3, we_4, we_5, we_6, we_7, we_8, we_9, we_10, we_11, we_12, we_13, we_14, we_15, we_16, we_17, we_18, we_19, we_20, we_21, we_22, we_23, we_24, we_25, we_26, we_27, we_28, we_29, we_30, we_31, we_32, we_33, we_34, we_35, wch_0, wch_1, List.getElem?_cons_zero, List.getElem?_cons_succ, u2, has_pc, aL4, true_and, cv_is, cv_isnot, isNone_fV, Option.isNone_none, tv_none, tv_bool, tv_int, tv_str, tv_tup, tv_lst, tv_ref, tv_inst, tv_iref]
      cases ob with
      | none =>
        simp only [Option.isNone_none, Bool.not_true, tv_none, tv_bool, tv_int, tv_str, tv_tup, tv_lst, tv_ref, tv_inst, tv_iref]
        refine wb_nil (wb_cons ?_)
        show PK H Q (.ret (.iref ad pn a)) ⟨_, H2, H⟩
        exact ret_pc (o := none) ha2 u2 (hq _ rfl)
      | some j =>
        simp only [Option.isNone_some, Bool.not_false, tv_none, tv_bool, tv_int, tv_str, tv_tup, tv_lst, tv_ref, tv_inst, tv_iref]
        refine wb_setf (fV (some (n + j))) rfl ha2 u2 has_pc (fun Q' h => ?_) sL4 fun H3 u3 => ?_
        · simp only [we_0, we_1, we_2, we_3, we_4, we_5, we_6, we_7, we_8, we_9, we_10, we_11, we_12, we_13, we_14, we_15, we_16, we_17, we_18, we_19, we_20, we_21, we_22, we_23, we_24, we_25, we_26, we_27, we_28, we_29, we_30, we_31, we_32, we_33, we_34, we_35, List.getElem?_cons_zero, List.getElem?_cons_succ, has_pc, aL0, aL4, true_and, fV, bv_add, bv_adds, bv_addl, bv_sub, bv_mul, bv_fdiv, bv_mod, bv_mull, bv_muls, addV, intP]
          exact h
        refine wb_nil (wb_cons ?_)
        show PK H Q (.ret (.iref ad pn a)) ⟨_, H3, H⟩
        exact ret_pc (o := some (n + j)) ha2 u3 (hq _ rfl)
noncomputable def dropB2 : Nat → Bl → Bl
  | 0, b => b
  | n + 1, .cons _ b => dropB2 n b
  | _, .nil => .nil
theorem first_two {W : List Nat} {m : Nat} (hm : W.length = m + 1) (a b : List Nat) : (occs W (a ++ b)).head? = (match (occs W a).head? with
      | some k => some k
      | none => (match (cross W m a b).head? with
        | some k => some k
        | none => (occs W b).head?.map (a.length + ·))) := by
  rw [occs_append hm]
  cases e1 : occs W a with
  | cons k r => rfl
  | nil =>
    cases e2 : cross W m a b with
    | cons k r => rfl
    | nil =>
      cases e3 : occs W b with
      | nil => rfl
      | cons k r => rfl
theorem sp_two {W a b : List Nat} (h : tbl.lookup "two" = some F_two) (hc : tbl.lookup "crossing" = some F_crossing) (hW : 0 < W.length) (hW2 : W.length ≤ 200) (hq : Q (pcV ad W (a ++ b))) :
    (cxN tbl gl (ctb ad) (d + 2)).call "two" [pcV ad W a, pcV ad W b, lst W] H Q X := by
  obtain ⟨m, hm⟩ : ∃ m, W.length = m + 1 := ⟨W.length - 1, by omega⟩
  have hm1 : W.length - 1 = m := by omega
  unfold pcV at hq ⊢
  rw [hm1] at hq ⊢
  have la : (a.take m).length ≤ m := List.length_take_le ..
  have lb : (b.take m).length ≤ m := List.length_take_le ..
  have ta := tl_len m a
  have tb := tl_len m b
  refine call_of h rfl (by decide) ?_
  show WB _ F_two.body ⟨[some (.inst ad pn [.int a.length, lst (a.take m), lst (tl m a), .int (occs W a).length, fV (occs W a).head?]), some (.inst ad pn [.int b.length, lst (b.take m), lst (tl m b), .int (occs W b).length, fV (occs W b).head?]), some (lst W), none, none, none, none, none, none], H, H⟩ _ _
  unfold F_two
  refine wb_asg (.int (m : Int)) (fun Q' hq => ?_) rfl ?_
  · simp only [we_0, we_1, we_2, we_3, we_4, we_5, we_6, we_7, we_8, we_9, we_10, we_11, we_12, we_13, we_14, we_15, we_16, we_17, we_18, we_19, we_20, we_21, we_22, we_23, we_24, we_25, we_26, we_27, we_28, we_29, we_30, we_31, we_32, we_33, we_34, we_35, List.getElem?_cons_zero, List.getElem?_cons_succ, zv_none, zv_bool, zv_int, zv_str, zv_tup, zv_lst, zv_ref, zv_inst, zv_iref, lst, lst_len, bv_add, bv_adds, bv_addl, bv_sub, bv_mul, bv_fdiv, bv_mod, bv_mull, bv_muls, intP]
    rw [hm, show (((m + 1 : Nat) : Int) - 1) = m by omega]; exact hq
  refine wb_asg (lst ((a.take m ++ b.take m).take m)) (fun Q' hq => ?_) rfl ?_
  · simp only [we_0, we_1, we_2, we_3, we_4, we_5, we_6, we_7, we_8, we_9, we_10, we_11, we_12, we_13, we_14, we_15, we_16, we_17, we_18, we_19, we_20, we_21, we_22, we_23, we_24, we_25, we_26, we_27, we_28, we_29, we_30, we_31, we_32, we_33, we_34, we_35, List.set_cons_zero, List.set_cons_succ, List.getElem?_cons_zero, List.getElem?_cons_succ, has_pc, aL1, true_and]
    refine lst_plus (by omega) ?_
    rw [slice_lst bnd_none bnd_int, take_clip]; exact hq
  simp only [List.set_cons_zero, List.set_cons_succ]
  -- behind the head
  have tail_ : ∀ x8 : Option V, WB (cxN tbl gl (ctb ad) (d + 1)) (dropB2 5 F_two.body) ⟨[some (.inst ad pn [.int a.length, lst (a.take m), lst (tl m a), .int (occs W a).length, fV (occs W a).head?]), some (.inst ad pn [.int b.length, lst (b.take m), lst (tl m b), .int (occs W b).length, fV (occs W b).head?]), some (lst W), some (.int m), some (lst ((a ++ b).take m)), some (lst (tl m (a ++ b))), none, none, x8], H, H⟩ (PK H Q) (fun x _ => X x) := by
    intro x8
    unfold F_two
    simp only [dropB2]
    refine wb_cons ?_
    simp only [ws_0, ws_1, ws_2, ws_3, ws_4, ws_5, ws_6, ws_7, ws_8, ws_9, ws_10, ws_11, ws_12, ws_13, pk_ret, pk_next, wa_0, wa_1, wa_2, wa_3, wa_4, cls_pc, wes_0, wes_1, we_0, we_1, we_2, we_3, we_4, we_5, we_6, we_7, we_8, we_9, we_10, we_11, we_12, we_13, we_14, we_15, we_16, we_17, we_18, we_19, we_20, we_21, we_22, we_23, we_24, we_25, we_26, we_27, we_28, we_29, we_30, we_31, we_32, we_33, we_34, we_35, List.getElem?_cons_zero, List.getElem?_cons_succ, has_pc, aL0, true_and, bv_add, bv_adds, bv_addl, bv_sub, bv_mul, bv_fdiv, bv_mod, bv_mull, bv_muls, addV, intP]
    refine ⟨rfl, fun r hr => ?_⟩
    have hr2 : H r = none := hr.2
    simp only [lp_0, lp_1, lp_2, lp_3, lp_4, lp_5, lp_6, lp_7, lp_8, lp_9, lp_10, lp_11, lp_12, lp_13, List.map_cons, List.map_nil, iniV, List.getElem?_cons_zero, List.getElem?_cons_succ, Option.getD_some, epn]
    have u1 : (H.upd r (.inst ad pn [.int ((a.length : Int) + b.length), lst ((a ++ b).take m), lst (tl m (a ++ b)), .int 0, .none])) r = some (.inst ad pn [.int ((a.length : Int) + b.length), lst ((a ++ b).take m), lst (tl m (a ++ b)), .int 0, .none]) := by rw [upd_at, if_pos rfl]
    generalize H.upd r (.inst ad pn [.int ((a.length : Int) + b.length), lst ((a ++ b).take m), lst (tl m (a ++ b)), .int 0, .none]) = H1 at u1 ⊢
    refine wb_cons ?_
    simp only [ws_0, ws_1, ws_2, ws_3, ws_4, ws_5, ws_6, ws_7, ws_8, ws_9, ws_10, ws_11, ws_12, ws_13, pk_ret, pk_next, we_0, we_1, we_2, we_3, we_4, we_5, we_6, we_7, we_8, we_9, we_10, we_11, we_12, we_13, we_14, we_15, we_16, we_17, we_18, we_19, we_20, we_21, we_22, we_23, we_24, we_25, we_26, we_27, we_28, we_29, we_30, we_31, we_32, we_33, we_34, we_35, wes_0, wes_1, List.getElem?_cons_zero, List.getElem?_cons_succ]
    refine sp_crossing hc (by omega) ?_
    have ex : (((List.range (tl m a).length).filter (at? W (tl m a ++ b.take m))).map fun (k : Nat) => V.int ((a.length : Int) - (tl m a).length + k)) = (cross W m a b).map fun (k : Nat) => V.int k := by
      unfold cross near
      rw [List.map_map]
      refine List.map_congr_left fun k _ => ?_
      show V.int ((a.length : Int) - (tl m a).length + k) = V.int ((a.length - (tl m a).length + k : Nat) : Int)
      congr 1; omega
    rw [ex]
    simp only [lb_var, lp_0, lp_1, lp_2, lp_3, lp_4, lp_5, lp_6, lp_7, lp_8, lp_9, lp_10, lp_11, lp_12, lp_13]
    refine wb_setf (.int ((occs W (a ++ b)).length : Int)) rfl hr2 u1 has_pc (fun Q' hq' => ?_) sL3 fun H2 u2 => ?_
    · have el : (occs W (a ++ b)).length = (occs W a).length + (cross W m a b).length + (occs W b).length := by rw [occs_append hm, List.length_append, List.length_append, List.length_map]
      simp only [we_0, we_1, we_2, we_3, we_4, we_5, we_6, we_7, we_8, we_9, we_10, we_11, we_12, we_13, we_14, we_15, we_16, we_17, we_18, we_19, we_20, we_21, we_22, we_23, we_24, we_25, we_26, we_27, we_28, we_29, we_30, we_31, we_32, we_33, we_34, we_35, List.getElem?_cons_zero, List.getElem?_cons_succ, has_pc, aL3, true_and, zv_none, zv_bool, zv_int, zv_str, zv_tup, zv_lst, zv_ref, zv_inst, zv_iref, List.length_map, bv_add, bv_adds, bv_addl, bv_sub, bv_mul, bv_fdiv, bv_mod, bv_mull, bv_muls, addV, intP]
      rw [el] at hq'
      exact hq'
    refine sp_two_end (n := a.length) (sa := 0) (s := _) hr2 u2 fun o ho => ?_
    rw [← first_two hm] at ho
    rw [ho, show (a.length : Int) + b.length = ((a ++ b).length : Int) by simp]
    exact hq
  unfold F_two at tail_
  simp only [dropB2] at tail_
  -- behind the tail
  have mid_ : WB (cxN tbl gl (ctb ad) (d + 1)) (dropB2 3 F_two.body) ⟨[some (.inst ad pn [.int a.length, lst (a.take m), lst (tl m a), .int (occs W a).length, fV (occs W a).head?]), some (.inst ad pn [.int b.length, lst (b.take m), lst (tl m b), .int (occs W b).length, fV (occs W b).head?]), some (lst W), some (.int m), some (lst ((a ++ b).take m)), none, none, none, none], H, H⟩ (PK H Q) (fun x _ => X x) := by
    unfold F_two
    simp only [dropB2]
    refine wb_asg (lst (tl m b)) (fun Q' hq => ?_) rfl ?_
    · simp only [we_0, we_1, we_2, we_3, we_4, we_5, we_6, we_7, we_8, we_9, we_10, we_11, we_12, we_13, we_14, we_15, we_16, we_17, we_18, we_19, we_20, we_21, we_22, we_23, we_24, we_25, we_26, we_27, we_28, we_29, we_30, we_31, we_32, we_33, we_34, we_35, List.getElem?_cons_zero, List.getElem?_cons_succ, has_pc, aL2, true_and]; exact hq
    simp only [List.set_cons_zero, List.set_cons_succ]
    refine wb_cons ?_
    simp only [ws_0, ws_1, ws_2, ws_3, ws_4, ws_5, ws_6, ws_7, ws_8, ws_9, ws_10, ws_11, ws_12, ws_13, pk_ret, pk_next, we_0, we_1, we_2, we_3, we_4, we_5, we_6, we_7, we_8, we_9, we_10, we_11, we_12, we_13, we_14, we_15, we_16, we_17, we_18, we_19, we_20, we_21, we_22, we_23, we_24, we_25, we_26, we_27, we_28, we_29, we_30, we_31, we_32, we_33, we_34, we_35, wch_0, wch_1, List.getElem?_cons_zero, List.getElem?_cons_succ, has_pc, aL0, true_and, cv_eq, cv_ne, cv_lt, cv_le, cv_gt, cv_ge, cv_isin, cv_notin, intP]
    by_cases hb : b.length < m
    · rw [decide_eq_true (show (b.length : Int) < m by omega)]
      simp only [tv_none, tv_bool, tv_int, tv_str, tv_tup, tv_lst, tv_ref, tv_inst, tv_iref]
      refine wb_asg (lst (tl m a ++ tl m b)) (fun Q' hq => ?_) rfl ?_
      · simp only [we_0, we_1, we_2, we_3, we_4, we_5, we_6, we_7, we_8, we_9, we_10, we_11, we_12, we_13, we_14, we_15, we_16, we_17, we_18, we_19, we_20, we_21, we_22, we_23, we_24, we_25, we_26, we_27, we_28, we_29, we_30, we_31, we_32, we_33, we_34, we_35, List.getElem?_cons_zero, List.getElem?_cons_succ, has_pc, aL2, true_and]
        exact lst_plus (by omega) hq
      simp only [List.set_cons_zero, List.set_cons_succ]
      refine wb_asg (lst (tl m (a ++ b))) (fun Q' hq => ?_) rfl ?_
      · have hz : sizeV H (lst (tl m a ++ tl m b)) = some (tl m a ++ tl m b).length := by show some _ = _; rw [lst_len]
        simp only [we_0, we_1, we_2, we_3, we_4, we_5, we_6, we_7, we_8, we_9, we_10, we_11, we_12, we_13, we_14, we_15, we_16, we_17, we_18, we_19, we_20, we_21, we_22, we_23, we_24, we_25, we_26, we_27, we_28, we_29, we_30, we_31, we_32, we_33, we_34, we_35, List.getElem?_cons_zero, List.getElem?_cons_succ, hz, bv_add, bv_adds, bv_addl, bv_sub, bv_mul, bv_fdiv, bv_mod, bv_mull, bv_muls, intP, int2]
        rw [slice_lst bnd_int bnd_none]
        have ec : clip (tl m a ++ tl m b).length (if ((tl m a ++ tl m b).length : Int) - m > 0 then ((tl m a ++ tl m b).length : Int) - m else 0) = (tl m a ++ tl m b).length - m := by
          generalize (tl m a ++ tl m b).length = z
          simp only [clip]
          split <;> (rw [if_neg (by omega)]; omega)
        rw [ec, cutL, List.take_of_length_le (by rw [List.length_drop]; omega), tail_short hb]
        exact hq
      simp only [List.set_cons_zero, List.set_cons_succ]
      exact wb_nil (tail_ _)
    · rw [decide_eq_false (show ¬ (b.length : Int) < m by omega)]
      simp only [tv_none, tv_bool, tv_int, tv_str, tv_tup, tv_lst, tv_ref, tv_inst, tv_iref]
      refine wb_nil ?_
      rw [tail_long (by omega)] at tail_
      exact tail_ _
  unfold F_two at mid_
  simp only [dropB2] at mid_
  refine wb_cons ?_
  simp only [ws_0, ws_1, ws_2, ws_3, ws_4, ws_5, ws_6, ws_7, ws_8, ws_9, ws_10, ws_11, ws_12, ws_13, pk_ret, pk_next, we_0, we_1, we_2, we_3, we_4, we_5, we_6, we_7, we_8, we_9, we_10, we_11, we_12, we_13, we_14, we_15, we_16, we_17, we_18, we_19, we_20, we_21, we_22, we_23, we_24, we_25, we_26, we_27, we_28, we_29, we_30, we_31, we_32, we_33, we_34, we_35, wch_0, wch_1, List.getElem?_cons_zero, List.getElem?_cons_succ, has_pc, aL0, true_and, cv_eq, cv_ne, cv_lt, cv_le, cv_gt, cv_ge, cv_isin, cv_notin, intP]
  by_cases ha : m ≤ a.length
  · rw [decide_eq_true (show (a.length : Int) ≥ m by omega)]
    simp only [tv_none, tv_bool, tv_int, tv_str, tv_tup, tv_lst, tv_ref, tv_inst, tv_iref]
    refine wb_asg (lst (a.take m)) (fun Q' hq => ?_) rfl ?_
    · simp only [we_0, we_1, we_2, we_3, we_4, we_5, we_6, we_7, we_8, we_9, we_10, we_11, we_12, we_13, we_14, we_15, we_16, we_17, we_18, we_19, we_20, we_21, we_22, we_23, we_24, we_25, we_26, we_27, we_28, we_29, we_30, we_31, we_32, we_33, we_34, we_35, List.getElem?_cons_zero, List.getElem?_cons_succ, has_pc, aL1, true_and]; exact hq
    simp only [List.set_cons_zero, List.set_cons_succ]
    rw [head_long ha] at mid_
    exact wb_nil mid_
  · rw [decide_eq_false (show ¬ (a.length : Int) ≥ m by omega)]
    simp only [tv_none, tv_bool, tv_int, tv_str, tv_tup, tv_lst, tv_ref, tv_inst, tv_iref]
    rw [head_short (by omega)]
    exact wb_nil mid_
end
end Lib
end

section
set_option autoImplicit false
set_option linter.unusedSimpArgs false
set_option linter.unusedVariables false
namespace Lib
open PySem
theorem Tx_sg {rs : List Rl} (hr : RulesOk rs) : ∀ (s : Sy), s.ok rs.length → ∀ c ∈ tx (Tx rs) s, c ∈ SG := by
  have key : ∀ n k, k < n → k < rs.length → ∀ c ∈ tx (Tx rs) (.ru k), c ∈ SG := by
    intro n
    induction n with
    | zero => intro k hk; omega
    | succ n ih =>
      intro k hk hlt c hc
      have hp := List.getElem?_eq_getElem hlt
      obtain ⟨o1, o2⟩ := hr k _ hp
      have one : ∀ s : Sy, s.ok k → ∀ c ∈ tx (Tx rs) s, c ∈ SG := by
        intro s hs c hc
        cases s with
        | ch a =>
          have : c = a := List.mem_singleton.mp hc
          rw [this]; exact hs
        | ru j =>
          have hj : j < k := hs
          exact ih j (by omega) (by omega) c hc
      have hg := Tx_get hr hp
      simp only [tx, List.getD, hg, Option.getD_some] at hc
      rcases List.mem_append.mp hc with q | q
      · exact one _ o1 c q
      · exact one _ o2 c q
  intro s hs c hc
  cases s with
  | ch a =>
    have : c = a := List.mem_singleton.mp hc
    rw [this]; exact hs
  | ru k => exact key (k + 1) k (by omega) hs c hc
theorem bt_sg {rs : List Rl} {row : List Sy} (hr : RulesOk rs) (hw : RowOk rs.length row) : ∀ c ∈ bt rs row, c ∈ SG := by
  intro c hc
  obtain ⟨l, hl, hc⟩ := List.mem_flatten.mp hc
  obtain ⟨s, hs, rfl⟩ := List.mem_map.mp hl
  exact Tx_sg hr s (hw s hs) c hc
/-- a test of two parts, and a choice, each with what it answers -/
theorem we_or {C : Cx} {a b : E} {st : St} {Q : V → Prop} {X : String → Prop} (p q : Bool) (ha : ∀ Q' : V → Prop, Q' (.bool p) → WE C a st Q' X) (hb : p = false → ∀ Q' : V → Prop, Q' (.bool q) → WE C b st Q' X) (hq : Q (.bool (p || q))) : WE C (.or a b) st Q X := by
  refine ha _ ?_
  cases p
  · exact hb rfl _ hq
  · exact hq
theorem wb_if {C : Cx} {t : E} {a b r : Bl} {st : St} {Q : Fl → St → Prop} {X : String → St → Prop} (p : Bool) (ht : ∀ Q' : V → Prop, Q' (.bool p) → WE C t st Q' (fun x => X x st)) (h1 : p = true → WB C a st (fun f st' => match f with
    | .next => WB C r st' Q X
    | f => Q f st') X) (h0 : p = false → WB C b st (fun f st' => match f with
    | .next => WB C r st' Q X
    | f => Q f st') X) : WB C (.cons (.ite t a b) r) st Q X := by
  refine wb_cons (ht _ ?_)
  cases p
  · exact h0 rfl
  · exact h1 rfl
theorem comp_fl {α : Type} {v : α → V} {g : α → Option V} {f : V → (Option V → Prop) → Prop} {K : List V → Prop} : ∀ {r : List α}, (∀ s ∈ r, ∀ k, k (g s) → f (v s) k) → K (r.filterMap g) → compL f (r.map v) K
  | [], _, hk => hk
  | s :: r, h, hk => by
    show f (v s) _
    refine h s (by simp) _ ?_
    refine comp_fl (fun s' hs => h s' (by simp [hs])) ?_
    cases e : g s with
    | none => rw [List.filterMap_cons_none e] at hk; exact hk
    | some y => rw [List.filterMap_cons_some e] at hk; exact hk
noncomputable def pcs (ad : Nat) (W : List Nat) (ts : List (List Nat)) : List V := ts.map (pcV ad W)
theorem pc_nil {ad : Nat} {W : List Nat} : pcV ad W [] = .inst ad pn [.int 0, .str (Str.ofString ""), .str (Str.ofString ""), .int 0, .none] := by
  unfold pcV
  rw [occs_nil, List.take_nil, show tl (W.length - 1) [] = [] from List.drop_nil]
  have e : lst [] = .str (Str.ofString "") := congrArg V.str (lst_empty.mpr rfl)
  rw [e]; rfl
structure HsP (tbl : Tbl) : Prop where
  pof : tbl.lookup "piece_of" = some F_piece_of
  crs : tbl.lookup "crossing" = some F_crossing
  two : tbl.lookup "two" = some F_two
  pby : tbl.lookup "piece_by" = some F_piece_by
  whl : tbl.lookup "whole" = some F_whole
section
variable {tbl : Tbl} {gl : List (String × V)} {ad d : Nat} {H : AH} {Q : V → Prop} {X : String → Prop}
theorem frz_pc {B : AH} {n : Nat} {W t : List Nat} : frz H B (n + 2) (pcV ad W t) = some (pcV ad W t) := by
  unfold pcV
  cases (occs W t).head? <;> rfl
theorem ret_pcV {ρ : List (Option V)} {H' B : AH} {W t : List Nat} (hq : Q (pcV ad W t)) : PK H Q (.ret (pcV ad W t)) ⟨ρ, H', B⟩ := by
  rw [pk_ret, frz_pc]; exact hq
theorem sp_piece_by {W : List Nat} {s : Sy} {u : V} {ts : List (List Nat)} (h : HsP tbl) (hW : 0 < W.length) (hu : seqL H u = some (pcs ad W ts)) (hs : s.ok ts.length) (hq : Q (pcV ad W (tx ts s))) : (cxN tbl gl (ctb ad) (d + 2)).call "piece_by" [s.v, u, lst W] H Q X := by
  refine call_of h.pby rfl (by decide) ?_
  show WB _ F_piece_by.body ⟨[some s.v, some u, some (lst W)], H, H⟩ _ _
  unfold F_piece_by
  refine wb_cons ?_
  cases s with
  | ch c =>
    simp only [ws_0, ws_1, ws_2, ws_3, ws_4, ws_5, ws_6, ws_7, ws_8, ws_9, ws_10, ws_11, ws_12, ws_13, pk_ret, pk_next, we_0, we_1, we_2, we_3, we_4, we_5, we_6, we_7, we_8, we_9, we_10, we_11, we_12, we_13, we_14, we_15, we_16, we_17, we_18, we_19, we_20, we_21, we_22, we_23, we_24, we_25, we_26, we_27, we_28, we_29, we_30, we_31, we_32, we_33, we_34, we_35, List.getElem?_cons_zero, List.getElem?_cons_succ, Sy.v, ist_none, ist_bool, ist_int, ist_str, ist_tup, ist_lst, ist_ref, ist_inst, ist_iref, isv_int_none, isv_int_bool, isv_int_int, isv_int_str, isv_int_tup, isv_int_lst, isv_int_ref, isv_int_inst, isv_int_iref, isv_bool_none, isv_bool_bool, isv_bool_int, isv_bool_str, isv_bool_tup, isv_bool_lst, isv_bool_ref, isv_bool_inst, isv_bool_iref, isv_str_none, isv_str_bool, isv_str_int, isv_str_str, isv_str_tup, isv_str_lst, isv_str_ref, isv_str_inst, isv_str_iref, isv_tuple_none, isv_tuple_bool, isv_tuple_int, isv_tuple_str, isv_tuple_tup, isv_tuple_lst, isv_tuple_ref, isv_tuple_inst, isv_tuple_iref, isv_list_none, isv_list_bool, isv_list_int, isv_list_str, isv_list_tup, isv_list_lst, isv_list_ref, isv_list_inst, isv_list_iref, isv_own_none, isv_ve_none, isv_own_bool, isv_ve_bool, isv_own_int, isv_ve_int, isv_own_str, isv_ve_str, isv_own_tup, isv_ve_tup, isv_own_lst, isv_ve_lst, isv_own_ref, isv_ve_ref, isv_own_inst, isv_ve_inst, isv_own_iref, isv_ve_iref, tv_none, tv_bool, tv_int, tv_str, tv_tup, tv_lst, tv_ref, tv_inst, tv_iref]
    refine wb_cons ?_
    simp only [ws_0, ws_1, ws_2, ws_3, ws_4, ws_5, ws_6, ws_7, ws_8, ws_9, ws_10, ws_11, ws_12, ws_13, pk_ret, pk_next, we_0, we_1, we_2, we_3, we_4, we_5, we_6, we_7, we_8, we_9, we_10, we_11, we_12, we_13, we_14, we_15, we_16, we_17, we_18, we_19, we_20, we_21, we_22, we_23, we_24, we_25, we_26, we_27, we_28, we_29, we_30, we_31, we_32, we_33, we_34, we_35, wes_0, wes_1, List.getElem?_cons_zero, List.getElem?_cons_succ]
    exact sp_piece_of h.pof hW (ret_pcV (ρ := []) (B := H) hq)
  | ru k =>
    have hk : k < ts.length := hs
    simp only [ws_0, ws_1, ws_2, ws_3, ws_4, ws_5, ws_6, ws_7, ws_8, ws_9, ws_10, ws_11, ws_12, ws_13, pk_ret, pk_next, we_0, we_1, we_2, we_3, we_4, we_5, we_6, we_7, we_8, we_9, we_10, we_11, we_12, we_13, we_14, we_15, we_16, we_17, we_18, we_19, we_20, we_21, we_22, we_23, we_24, we_25, we_26, we_27, we_28, we_29, we_30, we_31, we_32, we_33, we_34, we_35, List.getElem?_cons_zero, List.getElem?_cons_succ, Sy.v, ist_none, ist_bool, ist_int, ist_str, ist_tup, ist_lst, ist_ref, ist_inst, ist_iref, isv_int_none, isv_int_bool, isv_int_int, isv_int_str, isv_int_tup, isv_int_lst, isv_int_ref, isv_int_inst, isv_int_iref, isv_bool_none, isv_bool_bool, isv_bool_int, isv_bool_str, isv_bool_tup, isv_bool_lst, isv_bool_ref, isv_bool_inst, isv_bool_iref, isv_str_none, isv_str_bool, isv_str_int, isv_str_str, isv_str_tup, isv_str_lst, isv_str_ref, isv_str_inst, isv_str_iref, isv_tuple_none, isv_tuple_bool, isv_tuple_int, isv_tuple_str, isv_tuple_tup, isv_tuple_lst, isv_tuple_ref, isv_tuple_inst, isv_tuple_iref, isv_list_none, isv_list_bool, isv_list_int, isv_list_str, isv_list_tup, isv_list_lst, isv_list_ref, isv_list_inst, isv_list_iref, isv_own_none, isv_ve_none, isv_own_bool, isv_ve_bool, isv_own_int, isv_ve_int, isv_own_str, isv_ve_str, isv_own_tup, isv_ve_tup, isv_own_lst, isv_ve_lst, isv_own_ref, isv_ve_ref, isv_own_inst, isv_ve_inst, isv_own_iref, isv_ve_iref, tv_none, tv_bool, tv_int, tv_str, tv_tup, tv_lst, tv_ref, tv_inst, tv_iref]
    refine wb_nil (wb_cons ?_)
    simp only [ws_0, ws_1, ws_2, ws_3, ws_4, ws_5, ws_6, ws_7, ws_8, ws_9, ws_10, ws_11, ws_12, ws_13, pk_ret, pk_next, we_0, we_1, we_2, we_3, we_4, we_5, we_6, we_7, we_8, we_9, we_10, we_11, we_12, we_13, we_14, we_15, we_16, we_17, we_18, we_19, we_20, we_21, we_22, we_23, we_24, we_25, we_26, we_27, we_28, we_29, we_30, we_31, we_32, we_33, we_34, we_35, wes_0, wes_1, List.getElem?_cons_zero, List.getElem?_cons_succ]
    refine sub_seq hu (w := pcV ad W (tx ts (.ru k))) ?_ (ret_pcV (ρ := []) (B := H) hq)
    rw [pcs, List.getElem?_map, List.getElem?_eq_getElem hk]
    simp only [tx, List.getD, List.getElem?_eq_getElem hk, Option.map_some, Option.getD_some]
theorem sp_wholeb {rs : List Rl} {row : List Sy} {W : List Nat} (h0 : Has tbl gl) (h : HsP tbl) (hg : gl.lookup "MOST_WORD" = some (.int 200)) (hr : RulesOk rs) (hw : RowOk rs.length row) (hn : rs.length ≤ 600) (hn2 : row.length ≤ 2000) (hW : 0 < W.length) (hW2 : W.length ≤ 200) (hS : ∀ c ∈ W, c ∈ SG) (hq : Q (pcV ad W (bt rs row))) : (cxN tbl gl (ctb ad) (d + 5)).call "whole" [bookV rs row, lst W] H Q X := by
  refine call_of h.whl rfl (by decide) ?_
  show WB _ F_whole.body ⟨[some (bookV rs row), some (lst W), none, none, none, none], H, H⟩ _ _
  unfold F_whole
  refine wb_cons ?_
  simp only [ws_0, ws_1, ws_2, ws_3, ws_4, ws_5, ws_6, ws_7, ws_8, ws_9, ws_10, ws_11, ws_12, ws_13, pk_ret, pk_next, we_0, we_1, we_2, we_3, we_4, we_5, we_6, we_7, we_8, we_9, we_10, we_11, we_12, we_13, we_14, we_15, we_16, we_17, we_18, we_19, we_20, we_21, we_22, we_23, we_24, we_25, we_26, we_27, we_28, we_29, we_30, we_31, we_32, we_33, we_34, we_35, wes_0, wes_1, List.getElem?_cons_zero, List.getElem?_cons_succ]
  refine sp_need h0 hr hw hn hn2 ?_
  refine wb_if false (fun Q' hq => ?_) nofun fun _ => ?_
  · refine we_or false false (fun Q' hq => ?_) (fun _ Q' hq => ?_) hq
    · simp only [we_0, we_1, we_2, we_3, we_4, we_5, we_6, we_7, we_8, we_9, we_10, we_11, we_12, we_13, we_14, we_15, we_16, we_17, we_18, we_19, we_20, we_21, we_22, we_23, we_24, we_25, we_26, we_27, we_28, we_29, we_30, we_31, we_32, we_33, we_34, we_35, wes_0, wes_1, List.getElem?_cons_zero, List.getElem?_cons_succ]
      exact sp_text h0.text h0.signs hS hq
    · simp only [we_0, we_1, we_2, we_3, we_4, we_5, we_6, we_7, we_8, we_9, we_10, we_11, we_12, we_13, we_14, we_15, we_16, we_17, we_18, we_19, we_20, we_21, we_22, we_23, we_24, we_25, we_26, we_27, we_28, we_29, we_30, we_31, we_32, we_33, we_34, we_35, wch_0, wch_1, List.getElem?_cons_zero, List.getElem?_cons_succ, size_lst, cv_eq, cv_ne, cv_lt, cv_le, cv_gt, cv_ge, cv_isin, cv_notin, intP]
      rw [decide_eq_true (show (1 : Int) ≤ W.length by omega), if_pos rfl]
      simp only [wch_0, wch_1, we_0, we_1, we_2, we_3, we_4, we_5, we_6, we_7, we_8, we_9, we_10, we_11, we_12, we_13, we_14, we_15, we_16, we_17, we_18, we_19, we_20, we_21, we_22, we_23, we_24, we_25, we_26, we_27, we_28, we_29, we_30, we_31, we_32, we_33, we_34, we_35, cxN_glob, hg, cv_eq, cv_ne, cv_lt, cv_le, cv_gt, cv_ge, cv_isin, cv_notin, intP]
      rw [decide_eq_true (show (W.length : Int) ≤ 200 by omega)]
      exact hq
  refine wb_nil (wb_cons ?_)
  simp only [ws_0, ws_1, ws_2, ws_3, ws_4, ws_5, ws_6, ws_7, ws_8, ws_9, ws_10, ws_11, ws_12, ws_13, pk_ret, pk_next, wa_0, wa_1, wa_2, wa_3, wa_4, was_0, was_1]
  refine ⟨by decide, fun a ha1 ha2 => ?_⟩
  simp only [lp_0, lp_1, lp_2, lp_3, lp_4, lp_5, lp_6, lp_7, lp_8, lp_9, lp_10, lp_11, lp_12, lp_13]
  refine wb_cons ?_
  simp only [ws_0, ws_1, ws_2, ws_3, ws_4, ws_5, ws_6, ws_7, ws_8, ws_9, ws_10, ws_11, ws_12, ws_13, pk_ret, pk_next, wi_0, wi_1, wi_2, wi_3, wi_4, wi_5, wi_6, wi_7, rg1, rg2, rg3, we_0, we_1, we_2, we_3, we_4, we_5, we_6, we_7, we_8, we_9, we_10, we_11, we_12, we_13, we_14, we_15, we_16, we_17, we_18, we_19, we_20, we_21, we_22, we_23, we_24, we_25, we_26, we_27, we_28, we_29, we_30, we_31, we_32, we_33, we_34, we_35, List.getElem?_cons_zero, List.getElem?_cons_succ, book0, iv_none, iv_bool, iv_int, iv_str, iv_tup, iv_lst, iv_ref, iv_inst, iv_iref, dv_none, dv_bool, dv_int, dv_str, dv_tup, dv_lst, dv_ref, dv_inst, dv_iref]
  refine ⟨.inr nofun, ?_⟩
  refine forL_ind (fun xs st => ∃ (pre r : List Rl) (x : Option V) (H' : AH), rs = pre ++ r ∧ xs = r.map pv ∧ H' a = some (.list (pcs ad W (Tx pre))) ∧ st = ⟨[some (bookV rs row), some (lst W), some (.ref a), x, none, none], H', H⟩) ?_ ?_ _ _ ⟨[], rs, _, _, rfl, rfl, by rw [upd_at, if_pos rfl]; rfl, rfl⟩
  · rintro v vs st ih ⟨pre, r, x, H', hsp, hv, h1, rfl⟩
    cases r with
    | nil => cases hv
    | cons p r =>
    cases hv
    obtain ⟨p1, p2⟩ := p
    have hsl : rs.length = pre.length + (r.length + 1) := by rw [hsp]; simp
    obtain ⟨o1, o2⟩ := hr pre.length (p1, p2) (by rw [hsp]; simp)
    have hTl : (Tx pre).length = pre.length := Tx_length _
    refine ⟨[some (bookV rs row), some (lst W), some (.ref a), some (pv (p1, p2)), none, none], by simp only [lb_var, lp_0, lp_1, lp_2, lp_3, lp_4, lp_5, lp_6, lp_7, lp_8, lp_9, lp_10, lp_11, lp_12, lp_13], ?_⟩
    refine wb_cons ?_
    simp only [ws_0, ws_1, ws_2, ws_3, ws_4, ws_5, ws_6, ws_7, ws_8, ws_9, ws_10, ws_11, ws_12, ws_13, pk_ret, pk_next, we_0, we_1, we_2, we_3, we_4, we_5, we_6, we_7, we_8, we_9, we_10, we_11, we_12, we_13, we_14, we_15, we_16, we_17, we_18, we_19, we_20, we_21, we_22, we_23, we_24, we_25, we_26, we_27, we_28, we_29, we_30, we_31, we_32, we_33, we_34, we_35, wes_0, wes_1, wa_0, wa_1, wa_2, wa_3, wa_4, List.getElem?_cons_zero, List.getElem?_cons_succ, h1, pv_sub0, pv_sub1]
    refine sp_piece_by h hW (seq_ref h1) (by rw [hTl]; exact o1) ?_
    refine sp_piece_by h hW (seq_ref h1) (by rw [hTl]; exact o2) ?_
    refine sp_two h.two h.crs hW hW2 ?_
    refine ⟨ha2, by rw [sizeLine_val, pcs, List.length_map]; omega, wb_nil ?_⟩
    refine ih _ ⟨pre ++ [(p1, p2)], r, _, _, by rw [hsp, List.append_assoc]; rfl, rfl, ?_, rfl⟩
    rw [upd_at, if_pos rfl, Tx_snoc, pcs, pcs, List.map_append]; rfl
  · rintro st ⟨pre, r, x, H', hsp, hv, h1, rfl⟩
    have hr0 : r = [] := by cases r with
      | nil => rfl
      | cons => cases hv
    subst hr0
    rw [List.append_nil] at hsp
    subst hsp
    refine wb_asg (pcV ad W []) (fun Q' hq => ?_) rfl ?_
    · simp only [we_0, we_1, we_2, we_3, we_4, we_5, we_6, we_7, we_8, we_9, we_10, we_11, we_12, we_13, we_14, we_15, we_16, we_17, we_18, we_19, we_20, we_21, we_22, we_23, we_24, we_25, we_26, we_27, we_28, we_29, we_30, we_31, we_32, we_33, we_34, we_35, wes_0, wes_1, cls_pc]
      rw [pc_nil] at hq
      exact ⟨rfl, hq⟩
    simp only [List.set_cons_zero, List.set_cons_succ]
    refine wb_cons ?_
    simp only [ws_0, ws_1, ws_2, ws_3, ws_4, ws_5, ws_6, ws_7, ws_8, ws_9, ws_10, ws_11, ws_12, ws_13, pk_ret, pk_next, wi_0, wi_1, wi_2, wi_3, wi_4, wi_5, wi_6, wi_7, rg1, rg2, rg3, we_0, we_1, we_2, we_3, we_4, we_5, we_6, we_7, we_8, we_9, we_10, we_11, we_12, we_13, we_14, we_15, we_16, we_17, we_18, we_19, we_20, we_21, we_22, we_23, we_24, we_25, we_26, we_27, we_28, we_29, we_30, we_31, we_32, we_33, we_34, we_35, List.getElem?_cons_zero, List.getElem?_cons_succ, book1, iv_none, iv_bool, iv_int, iv_str, iv_tup, iv_lst, iv_ref, iv_inst, iv_iref, dv_none, dv_bool, dv_int, dv_str, dv_tup, dv_lst, dv_ref, dv_inst, dv_iref]
    refine ⟨.inr nofun, ?_⟩
    refine forL_ind (fun xs st => ∃ (pre r : List Sy) (y : Option V), row = pre ++ r ∧ xs = r.map Sy.v ∧ st = ⟨[some (bookV rs row), some (lst W), some (.ref a), x, some (pcV ad W (bt rs pre)), y], H', H⟩) ?_ ?_ _ _ ⟨[], row, _, rfl, rfl, rfl⟩
    · rintro v vs st ih ⟨pre, r, y, hsp, hv, rfl⟩
      cases r with
      | nil => cases hv
      | cons s r =>
      cases hv
      have os : s.ok rs.length := hw s (by rw [hsp]; simp)
      refine ⟨[some (bookV rs row), some (lst W), some (.ref a), x, some (pcV ad W (bt rs pre)), some s.v], by simp only [lb_var, lp_0, lp_1, lp_2, lp_3, lp_4, lp_5, lp_6, lp_7, lp_8, lp_9, lp_10, lp_11, lp_12, lp_13], ?_⟩
      refine wb_cons ?_
      simp only [ws_0, ws_1, ws_2, ws_3, ws_4, ws_5, ws_6, ws_7, ws_8, ws_9, ws_10, ws_11, ws_12, ws_13, pk_ret, pk_next, we_0, we_1, we_2, we_3, we_4, we_5, we_6, we_7, we_8, we_9, we_10, we_11, we_12, we_13, we_14, we_15, we_16, we_17, we_18, we_19, we_20, we_21, we_22, we_23, we_24, we_25, we_26, we_27, we_28, we_29, we_30, we_31, we_32, we_33, we_34, we_35, wes_0, wes_1, List.getElem?_cons_zero, List.getElem?_cons_succ]
      refine sp_piece_by h hW (seq_ref h1) (by rw [Tx_length]; exact os) ?_
      refine sp_two h.two h.crs hW hW2 ?_
      simp only [lb_var, lp_0, lp_1, lp_2, lp_3, lp_4, lp_5, lp_6, lp_7, lp_8, lp_9, lp_10, lp_11, lp_12, lp_13]
      refine wb_nil (ih _ ⟨pre ++ [s], r, some s.v, by rw [hsp, List.append_assoc]; rfl, rfl, ?_⟩)
      rw [bt_append, show bt rs [s] = tx (Tx rs) s from List.append_nil _]
    · rintro st ⟨pre, r, y, hsp, hv, rfl⟩
      have hr0 : r = [] := by cases r with
        | nil => rfl
        | cons => cases hv
      subst hr0
      rw [List.append_nil] at hsp
      subst hsp
      exact wb_cons (ret_pcV hq)
theorem sp_how {rs : List Rl} {row : List Sy} {W : List Nat} (h0 : Has tbl gl) (h : HsP tbl) (hf : tbl.lookup "how_often" = some F_how_often) (hg : gl.lookup "MOST_WORD" = some (.int 200)) (hr : RulesOk rs) (hw : RowOk rs.length row) (hn : rs.length ≤ 600) (hn2 : row.length ≤ 2000) (hW : 0 < W.length) (hW2 : W.length ≤ 200) (hS : ∀ c ∈ W, c ∈ SG) (hq : Q (.int (occs W (bt rs row)).length)) : (cxN tbl gl (ctb ad) (d + 6)).call "how_often" [bookV rs row, lst W] H Q X := by
  refine call_of hf rfl (by decide) ?_
  show WB _ F_how_often.body ⟨[some (bookV rs row), some (lst W)], H, H⟩ _ _
  unfold F_how_often
  refine wb_cons ?_
  simp only [ws_0, ws_1, ws_2, ws_3, ws_4, ws_5, ws_6, ws_7, ws_8, ws_9, ws_10, ws_11, ws_12, ws_13, pk_ret, pk_next, we_0, we_1, we_2, we_3, we_4, we_5, we_6, we_7, we_8, we_9, we_10, we_11, we_12, we_13, we_14, we_15, we_16, we_17, we_18, we_19, we_20, we_21, we_22, we_23, we_24, we_25, we_26, we_27, we_28, we_29, we_30, we_31, we_32, we_33, we_34, we_35, wes_0, wes_1, List.getElem?_cons_zero, List.getElem?_cons_succ]
  refine sp_wholeb h0 h hg hr hw hn hn2 hW hW2 hS ?_
  unfold pcV
  simp only [has_pc, aL3, true_and]
  exact hq
theorem sp_first {rs : List Rl} {row : List Sy} {W : List Nat} (h0 : Has tbl gl) (h : HsP tbl) (hf : tbl.lookup "first_place" = some F_first_place) (hg : gl.lookup "MOST_WORD" = some (.int 200)) (hr : RulesOk rs) (hw : RowOk rs.length row) (hn : rs.length ≤ 600) (hn2 : row.length ≤ 2000) (hW : 0 < W.length) (hW2 : W.length ≤ 200) (hS : ∀ c ∈ W, c ∈ SG) (hq : Q (fV (occs W (bt rs row)).head?)) : (cxN tbl gl (ctb ad) (d + 6)).call "first_place" [bookV rs row, lst W] H Q X := by
  refine call_of hf rfl (by decide) ?_
  show WB _ F_first_place.body ⟨[some (bookV rs row), some (lst W)], H, H⟩ _ _
  unfold F_first_place
  refine wb_cons ?_
  simp only [ws_0, ws_1, ws_2, ws_3, ws_4, ws_5, ws_6, ws_7, ws_8, ws_9, ws_10, ws_11, ws_12, ws_13, pk_ret, pk_next, we_0, we_1, we_2, we_3, we_4, we_5, we_6, we_7, we_8, we_9, we_10, we_11, we_12, we_13, we_14, we_15, we_16, we_17, we_18, we_19, we_20, we_21, we_22, we_23, we_24, we_25, we_26, we_27, we_28, we_29, we_30, we_31, we_32, we_33, we_34, we_35, wes_0, wes_1, List.getElem?_cons_zero, List.getElem?_cons_succ]
  refine sp_wholeb h0 h hg hr hw hn hn2 hW hW2 hS ?_
  unfold pcV
  simp only [has_pc, aL4, true_and]
  cases e : (occs W (bt rs row)).head? <;> (rw [e] at hq; exact hq)
theorem sp_places {cls : Clss} {t W : List Nat} (h : tbl.lookup "_law_places" = some F_law_places) (ht : t.length ≤ 10000) (hW : 0 < W.length) (hW2 : W.length ≤ 10000) (hq : Q (.lst ((occs W t).map fun (k : Nat) => V.int k))) : (cxN tbl gl cls (d + 1)).call "_law_places" [lst t, lst W] H Q X := by
  refine call_of h rfl (by decide) ?_
  show WB _ F_law_places.body ⟨[some (lst t), some (lst W), none], H, H⟩ _ _
  unfold F_law_places
  refine wb_cons ?_
  simp only [ws_0, ws_1, ws_2, ws_3, ws_4, ws_5, ws_6, ws_7, ws_8, ws_9, ws_10, ws_11, ws_12, ws_13, pk_ret, pk_next, we_0, we_1, we_2, we_3, we_4, we_5, we_6, we_7, we_8, we_9, we_10, we_11, we_12, we_13, we_14, we_15, we_16, we_17, we_18, we_19, we_20, we_21, we_22, we_23, we_24, we_25, we_26, we_27, we_28, we_29, we_30, we_31, we_32, we_33, we_34, we_35, wi_0, wi_1, wi_2, wi_3, wi_4, wi_5, wi_6, wi_7, rg1, rg2, rg3, List.getElem?_cons_zero, List.getElem?_cons_succ, size_lst, bv_add, bv_adds, bv_addl, bv_sub, bv_mul, bv_fdiv, bv_mod, bv_mull, bv_muls, addV, intP, rng1, upL, List.length_map, List.length_range]
  obtain ⟨n, hn⟩ : ∃ n : Nat, ((t.length : Int) - W.length + 1 - 0).toNat = n := ⟨_, rfl⟩
  rw [hn]
  refine ⟨by unfold smallI; omega, by rw [sizeLine_val]; omega, ?_⟩
  refine comp_fl (v := fun (k : Nat) => V.int (0 + (k : Int))) (g := fun k => if at? W t k then some (V.int k) else none) (fun k hk K hK => ?_) ?_
  · have hkn : k < n := List.mem_range.mp hk
    rw [show (0 + (k : Int)) = k by omega]
    simp only [lb_var, lp_0, lp_1, lp_2, lp_3, lp_4, lp_5, lp_6, lp_7, lp_8, lp_9, lp_10, lp_11, lp_12, lp_13, we_0, we_1, we_2, we_3, we_4, we_5, we_6, we_7, we_8, we_9, we_10, we_11, we_12, we_13, we_14, we_15, we_16, we_17, we_18, we_19, we_20, we_21, we_22, we_23, we_24, we_25, we_26, we_27, we_28, we_29, we_30, we_31, we_32, we_33, we_34, we_35, wch_0, wch_1, List.getElem?_cons_zero, List.getElem?_cons_succ, size_lst, bv_add, bv_adds, bv_addl, bv_sub, bv_mul, bv_fdiv, bv_mod, bv_mull, bv_muls, addV, intP]
    rw [slice_lst bnd_int bnd_int, cut_at (by omega)]
    simp only [cv_eq, cv_ne, cv_lt, cv_le, cv_gt, cv_ge, cv_isin, cv_notin, eqV_lst]
    cases e : at? W t k with
    | true =>
      rw [decide_eq_true (of_decide_eq_true e)]
      rw [e] at hK
      exact hK
    | false =>
      rw [decide_eq_false (of_decide_eq_false e)]
      rw [e] at hK
      exact hK
  · have e1 : (List.range n).filterMap (fun k => if at? W t k then some (V.int (k : Int)) else none) = (occs W t).map fun (k : Nat) => V.int k := by
      rw [← occs_law (n := n) (by omega) (by omega) (by omega)]
      generalize List.range n = l
      induction l with
      | nil => rfl
      | cons k l ih =>
        cases e : at? W t k with
        | true =>
          rw [List.filter_cons_of_pos e, List.map_cons, ← ih]
          exact List.filterMap_cons_some (by rw [e]; rfl)
        | false =>
          rw [List.filter_cons_of_neg (by rw [e]; exact Bool.false_ne_true), ← ih]
          exact List.filterMap_cons_none (by rw [e]; rfl)
    rw [e1]
    have e2 : frz H H 8 (.lst ((occs W t).map fun (k : Nat) => V.int k)) = some (.lst ((occs W t).map fun (k : Nat) => V.int k)) := by
      show (frzs H H 7 _).map V.lst = _
      rw [frz_ints]; rfl
    rw [e2]; exact hq
end
end Lib
end

section
set_option autoImplicit false
set_option linter.unusedSimpArgs false
set_option linter.unusedVariables false
namespace Lib
open PySem
theorem rep_mem {n c x : Nat} (h : x ∈ repL n [c]) : x = c := by
  obtain ⟨l, hl, hx⟩ := List.mem_flatten.mp h
  rw [(List.mem_replicate.mp hl).2] at hx
  exact List.mem_singleton.mp hx
theorem rep_len {n c : Nat} : (repL n [c]).length = n := by
  unfold repL
  induction n with
  | zero => rfl
  | succ n ih => rw [List.replicate_succ, List.flatten_cons, List.length_append, ih]; simp; omega
section
variable {tbl : Tbl} {gl : List (String × V)} {cls : Clss} {d : Nat} {H : AH} {Q : V → Prop} {X : String → Prop}
theorem sp_law_word {t : List Nat} {ns : List Int} {fc : Int} (h : tbl.lookup "_law_word" = some F_law_word) (hc : tbl.lookup "_law_cell_at" = some F_law_cell_at) (hsb : tbl.lookup "_law_sign_by" = some F_law_sign_by) (ht : t.length ≤ 10000) (hS : ∀ c ∈ t, c ∈ SG)
    (hq : ∀ W : List Nat, 0 < W.length → W.length ≤ 200 → (∀ c ∈ W, c ∈ SG) → Q (lst W)) : (cxN tbl gl cls (d + 2)).call "_law_word" [lst t, .lst (ns.map V.int), .int fc] H Q X := by
  refine call_of h rfl (by decide) ?_
  show WB _ F_law_word.body ⟨[some (lst t), some (.lst (ns.map V.int)), some (.int fc), none, none, none, none, none, none], H, H⟩ _ _
  have ret_ : ∀ (x3 x4 x5 x6 x8 : Option V) (W : List Nat), 0 < W.length → W.length ≤ 200 → (∀ c ∈ W, c ∈ SG) → WB (cxN tbl gl cls (d + 1)) (dropB2 8 F_law_word.body) ⟨[some (lst t), some (.lst (ns.map V.int)), some (.int fc), x3, x4, x5, x6, some (lst W), x8], H, H⟩ (PK H Q) (fun x _ => X x) := by
    intro x3 x4 x5 x6 x8 W h1 h2 h3
    exact wb_cons (hq W h1 h2 h3)
  -- from the word on
  have word_ : ∀ (c m : Int) (x5 x6 : Option V) (W : List Nat), 0 < W.length → W.length ≤ 200 → (∀ c ∈ W, c ∈ SG) → WB (cxN tbl gl cls (d + 1)) (dropB2 7 F_law_word.body) ⟨[some (lst t), some (.lst (ns.map V.int)), some (.int fc), some (.int c), some (.int m), x5, x6, some (lst W), none], H, H⟩ (PK H Q) (fun x _ => X x) := by
    intro c m x5 x6 W h1 h2 h3
    unfold F_law_word at ret_ ⊢
    simp only [dropB2] at ret_ ⊢
    refine wb_if (decide (m.fmod 5 = 2)) (fun Q' hq => ?_) (fun _ => ?_) (fun _ => ?_)
    · simp only [we_0, we_1, we_2, we_3, we_4, we_5, we_6, we_7, we_8, we_9, we_10, we_11, we_12, we_13, we_14, we_15, we_16, we_17, we_18, we_19, we_20, we_21, we_22, we_23, we_24, we_25, we_26, we_27, we_28, we_29, we_30, we_31, we_32, we_33, we_34, we_35, wch_0, wch_1, List.getElem?_cons_zero, List.getElem?_cons_succ, bv_add, bv_adds, bv_addl, bv_sub, bv_mul, bv_fdiv, bv_mod, bv_mull, bv_muls, intP, cv_eq, cv_ne, cv_lt, cv_le, cv_gt, cv_ge, cv_isin, cv_notin, eqV_int]
      exact ⟨by decide, hq⟩
    · obtain ⟨k, hk, hlt⟩ : ∃ k : Nat, (m.fdiv 40).fmod W.length = (k : Int) ∧ k < W.length := by
        have := fm (m.fdiv 40) (b := (W.length : Int)) (by omega)
        exact ⟨((m.fdiv 40).fmod W.length).toNat, by omega, by omega⟩
      refine wb_asg (.int k) (fun Q' hq => ?_) rfl ?_
      · simp only [we_0, we_1, we_2, we_3, we_4, we_5, we_6, we_7, we_8, we_9, we_10, we_11, we_12, we_13, we_14, we_15, we_16, we_17, we_18, we_19, we_20, we_21, we_22, we_23, we_24, we_25, we_26, we_27, we_28, we_29, we_30, we_31, we_32, we_33, we_34, we_35, List.getElem?_cons_zero, List.getElem?_cons_succ, size_lst, bv_add, bv_adds, bv_addl, bv_sub, bv_mul, bv_fdiv, bv_mod, bv_mull, bv_muls, intP]
        refine ⟨by decide, by omega, ?_⟩
        rw [hk]; exact hq
      simp only [List.set_cons_zero, List.set_cons_succ]
      refine wb_cons ?_
      simp only [ws_0, ws_1, ws_2, ws_3, ws_4, ws_5, ws_6, ws_7, ws_8, ws_9, ws_10, ws_11, ws_12, ws_13, pk_ret, pk_next, we_0, we_1, we_2, we_3, we_4, we_5, we_6, we_7, we_8, we_9, we_10, we_11, we_12, we_13, we_14, we_15, we_16, we_17, we_18, we_19, we_20, we_21, we_22, we_23, we_24, we_25, we_26, we_27, we_28, we_29, we_30, we_31, we_32, we_33, we_34, we_35, wes_0, wes_1, List.getElem?_cons_zero, List.getElem?_cons_succ, intP]
      rw [slice_lst bnd_none bnd_int, take_clip]
      refine ⟨by decide, sp_sign hsb fun z hz => ?_⟩
      have lk : (W.take k).length = k := by rw [List.length_take]; omega
      refine lst_plus (a := W.take k) (b := [z]) (by rw [lk]; simp; omega) ?_
      refine show binV H .add (.int (k : Int)) (.int 1) _ from ?_
      simp only [show ∀ P : V → Prop, binV H .add (.int (k : Int)) (.int 1) P = P (.int ((k : Int) + 1)) from fun _ => rfl]
      have e1 : clip W.length ((k : Int) + 1) = k + 1 := by simp only [clip]; rw [if_neg (by omega)]; omega
      have e3 : cutL W (k + 1) W.length = W.drop (k + 1) := List.take_of_length_le (by rw [List.length_drop]; omega)
      rw [slice_lst bnd_int bnd_none, e1, e3]
      have ll : (W.take k ++ [z]).length = k + 1 := by rw [List.length_append, lk]; rfl
      have ld : (W.drop (k + 1)).length = W.length - (k + 1) := List.length_drop
      refine lst_plus (by omega) ?_
      simp only [lb_var, lp_0, lp_1, lp_2, lp_3, lp_4, lp_5, lp_6, lp_7, lp_8, lp_9, lp_10, lp_11, lp_12, lp_13]
      refine wb_nil (ret_ _ _ _ _ _ _ ?_ ?_ ?_)
      · rw [List.length_append]; omega
      · rw [List.length_append]; omega
      · intro y hy
        rcases List.mem_append.mp hy with q | q
        · rcases List.mem_append.mp q with q | q
          · exact h3 y (List.mem_of_mem_take q)
          · rw [List.mem_singleton.mp q]; exact hz
        · exact h3 y (List.mem_of_mem_drop q)
    · exact wb_nil (ret_ _ _ _ _ _ _ h1 h2 h3)
  -- from the size on
  have size_ : ∀ (c m z : Int) (k : Nat), k < t.length → 1 ≤ z → z ≤ 200 → WB (cxN tbl gl cls (d + 1)) (dropB2 6 F_law_word.body) ⟨[some (lst t), some (.lst (ns.map V.int)), some (.int fc), some (.int c), some (.int m), some (.int k), some (.int z), none, none], H, H⟩ (PK H Q) (fun x _ => X x) := by
    intro c m z k hk hz1 hz2
    unfold F_law_word at word_ ⊢
    simp only [dropB2] at word_ ⊢
    obtain ⟨w, rfl⟩ : ∃ w : Nat, z = w := ⟨z.toNat, by omega⟩
    have lw : ((t.drop k).take w).length = min w (t.length - k) := by rw [List.length_take, List.length_drop]
    refine wb_asg (lst ((t.drop k).take w)) (fun Q' hq => ?_) rfl ?_
    · simp only [we_0, we_1, we_2, we_3, we_4, we_5, we_6, we_7, we_8, we_9, we_10, we_11, we_12, we_13, we_14, we_15, we_16, we_17, we_18, we_19, we_20, we_21, we_22, we_23, we_24, we_25, we_26, we_27, we_28, we_29, we_30, we_31, we_32, we_33, we_34, we_35, List.getElem?_cons_zero, List.getElem?_cons_succ, bv_add, bv_adds, bv_addl, bv_sub, bv_mul, bv_fdiv, bv_mod, bv_mull, bv_muls, addV, intP]
      rw [slice_lst bnd_int bnd_int, cut_at (by omega)]; exact hq
    simp only [List.set_cons_zero, List.set_cons_succ]
    exact word_ c m _ _ _ (by omega) (by omega) fun y hy => hS y (List.mem_of_mem_drop (List.mem_of_mem_take hy))
  clear word_ ret_
  unfold F_law_word at size_ ⊢
  simp only [dropB2] at size_
  refine wb_cons ?_
  simp only [ws_0, ws_1, ws_2, ws_3, ws_4, ws_5, ws_6, ws_7, ws_8, ws_9, ws_10, ws_11, ws_12, ws_13, pk_ret, pk_next, we_0, we_1, we_2, we_3, we_4, we_5, we_6, we_7, we_8, we_9, we_10, we_11, we_12, we_13, we_14, we_15, we_16, we_17, we_18, we_19, we_20, we_21, we_22, we_23, we_24, we_25, we_26, we_27, we_28, we_29, we_30, we_31, we_32, we_33, we_34, we_35, wes_0, wes_1, List.getElem?_cons_zero, List.getElem?_cons_succ]
  refine sp_cell (k := 1) hc fun c => ?_
  simp only [lb_var, lp_0, lp_1, lp_2, lp_3, lp_4, lp_5, lp_6, lp_7, lp_8, lp_9, lp_10, lp_11, lp_12, lp_13]
  refine wb_cons ?_
  simp only [ws_0, ws_1, ws_2, ws_3, ws_4, ws_5, ws_6, ws_7, ws_8, ws_9, ws_10, ws_11, ws_12, ws_13, pk_ret, pk_next, we_0, we_1, we_2, we_3, we_4, we_5, we_6, we_7, we_8, we_9, we_10, we_11, we_12, we_13, we_14, we_15, we_16, we_17, we_18, we_19, we_20, we_21, we_22, we_23, we_24, we_25, we_26, we_27, we_28, we_29, we_30, we_31, we_32, we_33, we_34, we_35, wes_0, wes_1, List.getElem?_cons_zero, List.getElem?_cons_succ]
  refine sp_cell (k := 2) hc fun m => ?_
  simp only [lb_var, lp_0, lp_1, lp_2, lp_3, lp_4, lp_5, lp_6, lp_7, lp_8, lp_9, lp_10, lp_11, lp_12, lp_13]
  refine wb_if (decide (t = []) || decide (m.fmod 5 = 4)) (fun Q' hq => ?_) (fun _ => ?_) (fun hf => ?_)
  · refine we_or _ _ (fun Q' hq => ?_) (fun _ Q' hq => ?_) hq
    · have eE : V.str (Str.ofString "") = lst [] := (congrArg V.str (lst_empty.mpr rfl)).symm
      simp only [we_0, we_1, we_2, we_3, we_4, we_5, we_6, we_7, we_8, we_9, we_10, we_11, we_12, we_13, we_14, we_15, we_16, we_17, we_18, we_19, we_20, we_21, we_22, we_23, we_24, we_25, we_26, we_27, we_28, we_29, we_30, we_31, we_32, we_33, we_34, we_35, wch_0, wch_1, List.getElem?_cons_zero, List.getElem?_cons_succ, cv_eq, cv_ne, cv_lt, cv_le, cv_gt, cv_ge, cv_isin, cv_notin]
      rw [eE, eqV_lst]; exact hq
    · simp only [we_0, we_1, we_2, we_3, we_4, we_5, we_6, we_7, we_8, we_9, we_10, we_11, we_12, we_13, we_14, we_15, we_16, we_17, we_18, we_19, we_20, we_21, we_22, we_23, we_24, we_25, we_26, we_27, we_28, we_29, we_30, we_31, we_32, we_33, we_34, we_35, wch_0, wch_1, List.getElem?_cons_zero, List.getElem?_cons_succ, bv_add, bv_adds, bv_addl, bv_sub, bv_mul, bv_fdiv, bv_mod, bv_mull, bv_muls, intP, cv_eq, cv_ne, cv_lt, cv_le, cv_gt, cv_ge, cv_isin, cv_notin, eqV_int]
      exact ⟨by decide, hq⟩
  · refine wb_cons ?_
    simp only [ws_0, ws_1, ws_2, ws_3, ws_4, ws_5, ws_6, ws_7, ws_8, ws_9, ws_10, ws_11, ws_12, ws_13, pk_ret, pk_next, we_0, we_1, we_2, we_3, we_4, we_5, we_6, we_7, we_8, we_9, we_10, we_11, we_12, we_13, we_14, we_15, we_16, we_17, we_18, we_19, we_20, we_21, we_22, we_23, we_24, we_25, we_26, we_27, we_28, we_29, we_30, we_31, we_32, we_33, we_34, we_35, wes_0, wes_1, List.getElem?_cons_zero, List.getElem?_cons_succ]
    refine sp_sign hsb fun z hz => ?_
    simp only [bv_add, bv_adds, bv_addl, bv_sub, bv_mul, bv_fdiv, bv_mod, bv_mull, bv_muls, addV, intP]
    have hf := fm c (b := 200) (by decide)
    refine ⟨by decide, ?_⟩
    have lr : (repL (1 + c.fmod 200).toNat [z]).length = (1 + c.fmod 200).toNat := rep_len
    refine lst_times (H := H) (a := [z]) (n := 1 + c.fmod 200) (by omega) (by omega) (by rw [List.length_singleton]; omega) ?_
    exact hq _ (by omega) (by omega) fun y hy => by rw [rep_mem hy]; exact hz
  · have he : t ≠ [] := by
      intro e
      rw [e] at hf
      cases hf
    have hpos : 0 < t.length := List.length_pos_iff.mpr he
    obtain ⟨k, hk, hlt⟩ : ∃ k : Nat, c.fmod t.length = (k : Int) ∧ k < t.length := by
      have := fm c (b := (t.length : Int)) (by omega)
      exact ⟨(c.fmod t.length).toNat, by omega, by omega⟩
    refine wb_nil ?_
    refine wb_asg (.int k) (fun Q' hq => ?_) rfl ?_
    · simp only [we_0, we_1, we_2, we_3, we_4, we_5, we_6, we_7, we_8, we_9, we_10, we_11, we_12, we_13, we_14, we_15, we_16, we_17, we_18, we_19, we_20, we_21, we_22, we_23, we_24, we_25, we_26, we_27, we_28, we_29, we_30, we_31, we_32, we_33, we_34, we_35, List.getElem?_cons_zero, List.getElem?_cons_succ, size_lst, bv_add, bv_adds, bv_addl, bv_sub, bv_mul, bv_fdiv, bv_mod, bv_mull, bv_muls, intP]
      refine ⟨by omega, ?_⟩
      rw [hk]; exact hq
    simp only [List.set_cons_zero, List.set_cons_succ]
    refine wb_asg (.int (1 + (m.fdiv 5).fmod 8)) (fun Q' hq => ?_) rfl ?_
    · simp only [we_0, we_1, we_2, we_3, we_4, we_5, we_6, we_7, we_8, we_9, we_10, we_11, we_12, we_13, we_14, we_15, we_16, we_17, we_18, we_19, we_20, we_21, we_22, we_23, we_24, we_25, we_26, we_27, we_28, we_29, we_30, we_31, we_32, we_33, we_34, we_35, List.getElem?_cons_zero, List.getElem?_cons_succ, bv_add, bv_adds, bv_addl, bv_sub, bv_mul, bv_fdiv, bv_mod, bv_mull, bv_muls, addV, intP]
      exact ⟨by decide, by decide, hq⟩
    simp only [List.set_cons_zero, List.set_cons_succ]
    have f8 := fm (m.fdiv 5) (b := 8) (by decide)
    have f200 := fm (m.fdiv 5) (b := 200) (by decide)
    refine wb_if (decide (m.fmod 5 = 3)) (fun Q' hq => ?_) (fun _ => ?_) (fun _ => ?_)
    · simp only [we_0, we_1, we_2, we_3, we_4, we_5, we_6, we_7, we_8, we_9, we_10, we_11, we_12, we_13, we_14, we_15, we_16, we_17, we_18, we_19, we_20, we_21, we_22, we_23, we_24, we_25, we_26, we_27, we_28, we_29, we_30, we_31, we_32, we_33, we_34, we_35, wch_0, wch_1, List.getElem?_cons_zero, List.getElem?_cons_succ, bv_add, bv_adds, bv_addl, bv_sub, bv_mul, bv_fdiv, bv_mod, bv_mull, bv_muls, intP, cv_eq, cv_ne, cv_lt, cv_le, cv_gt, cv_ge, cv_isin, cv_notin, eqV_int]
      exact ⟨by decide, hq⟩
    · refine wb_asg (.int (1 + (m.fdiv 5).fmod 200)) (fun Q' hq => ?_) rfl ?_
      · simp only [we_0, we_1, we_2, we_3, we_4, we_5, we_6, we_7, we_8, we_9, we_10, we_11, we_12, we_13, we_14, we_15, we_16, we_17, we_18, we_19, we_20, we_21, we_22, we_23, we_24, we_25, we_26, we_27, we_28, we_29, we_30, we_31, we_32, we_33, we_34, we_35, List.getElem?_cons_zero, List.getElem?_cons_succ, bv_add, bv_adds, bv_addl, bv_sub, bv_mul, bv_fdiv, bv_mod, bv_mull, bv_muls, addV, intP]
        exact ⟨by decide, by decide, hq⟩
      simp only [List.set_cons_zero, List.set_cons_succ]
      exact wb_nil (size_ c m _ k hlt (by omega) (by omega))
    · exact wb_nil (size_ c m _ k hlt (by omega) (by omega))
end
end Lib
end

section
set_option autoImplicit false
namespace L06
open PySem Mine
noncomputable def F_is_whole : Fn := ⟨1, ["thing"], 1,
  (.cons (.ret (.and (.isinst (.var 0) .int) (.not (.isinst (.var 0) .bool))))
  .nil)⟩
noncomputable def F_is_text : Fn := ⟨1, ["thing", "sign"], 2,
  (.cons (.ite (.not (.isinst (.var 0) .str)) (.cons (.ret (.bool false))
    .nil) .nil)
  (.cons (.for (.var 1) (.seq (.var 0)) (.cons (.ite (.cmp (.var 1) (.one .notin (.glob "SIGNS"))) (.cons (.ret (.bool false))
      .nil) .nil)
    .nil))
  (.cons (.ret (.bool true))
  .nil)))⟩
noncomputable def F_is_symbol : Fn := ⟨2, ["thing", "below"], 2,
  (.cons (.ite (.call "is_whole" (.cons (.var 0) .nil)) (.cons (.ret (.cmp (.int 0) (.more .le (.var 0) (.one .lt (.var 1)))))
    .nil) .nil)
  (.cons (.ret (.and (.call "is_text" (.cons (.var 0) .nil)) (.cmp (.len (.var 0)) (.one .eq (.int 1)))))
  .nil))⟩
noncomputable def F_is_rule : Fn := ⟨2, ["rule", "number"], 2,
  (.cons (.ite (.or (.not (.isinst (.var 0) .tuple)) (.cmp (.len (.var 0)) (.one .ne (.int 2)))) (.cons (.ret (.bool false))
    .nil) .nil)
  (.cons (.ret (.and (.call "is_symbol" (.cons (.sub (.var 0) (.int 0)) (.cons (.var 1) .nil))) (.call "is_symbol" (.cons (.sub (.var 0) (.int 1)) (.cons (.var 1) .nil)))))
  .nil))⟩
noncomputable def F_need_book : Fn := ⟨1, ["book", "rules", "row", "number", "symbol"], 5,
  (.cons (.ite (.or (.not (.isinst (.var 0) .tuple)) (.cmp (.len (.var 0)) (.one .ne (.int 2)))) (.cons (.raise "NoBook" (.str (Str.ofString "no pair")))
    .nil) .nil)
  (.cons (.assign (.var 1) (.sub (.var 0) (.int 0)))
  (.cons (.assign (.var 2) (.sub (.var 0) (.int 1)))
  (.cons (.ite (.or (.not (.isinst (.var 1) .list)) (.not (.isinst (.var 2) .list))) (.cons (.raise "NoBook" (.str (Str.ofString "no two lists")))
    .nil) .nil)
  (.cons (.ite (.or (.cmp (.len (.var 1)) (.one .gt (.glob "MOST_RULES"))) (.cmp (.len (.var 2)) (.one .gt (.glob "MOST_ROW")))) (.cons (.raise "NoBook" (.str (Str.ofString "too long")))
    .nil) .nil)
  (.cons (.for (.var 3) (.range1 (.len (.var 1))) (.cons (.ite (.not (.call "is_rule" (.cons (.sub (.var 1) (.var 3)) (.cons (.var 3) .nil)))) (.cons (.raise "NoBook" (.str (Str.ofString "no rule")))
      .nil) .nil)
    .nil))
  (.cons (.for (.var 4) (.seq (.var 2)) (.cons (.ite (.not (.call "is_symbol" (.cons (.var 4) (.cons (.len (.var 1)) .nil)))) (.cons (.raise "NoBook" (.str (Str.ofString "no symbol")))
      .nil) .nil)
    .nil))
  (.cons (.ret (.var 0))
  .nil))))))))⟩
noncomputable def F_piece_of : Fn := ⟨2, ["sign", "word", "most", "piece"], 4,
  (.cons (.assign (.var 2) (.bin .sub (.len (.var 1)) (.int 1)))
  (.cons (.own 3 (.new "Piece" (.cons (.int 1) (.cons (.slice (.var 0) .none (.var 2)) (.cons (.slice (.var 0) .none (.var 2)) .nil)))))
  (.cons (.ite (.cmp (.var 0) (.one .eq (.var 1))) (.cons (.setattr (.var 3) "times" (.int 1))
    (.cons (.setattr (.var 3) "first" (.int 0))
    .nil)) .nil)
  (.cons (.ret (.var 3))
  .nil))))⟩
noncomputable def F_crossing : Fn := ⟨3, ["left", "right", "word", "near", "found", "at"], 6,
  (.cons (.assign (.var 3) (.bin .add (.attr (.var 0) "tail") (.attr (.var 1) "head")))
  (.cons (.own 4 (.list .nil))
  (.cons (.for (.var 5) (.range1 (.len (.attr (.var 0) "tail"))) (.cons (.ite (.cmp (.slice (.var 3) (.var 5) (.bin .add (.var 5) (.len (.var 2)))) (.one .eq (.var 2))) (.cons (.append (.var 4) (.pure (.bin .add (.bin .sub (.attr (.var 0) "size") (.len (.attr (.var 0) "tail"))) (.var 5))))
      .nil) .nil)
    .nil))
  (.cons (.ret (.var 4))
  .nil))))⟩
noncomputable def F_two : Fn := ⟨3, ["left", "right", "word", "most", "head", "tail", "piece", "places", "both"], 9,
  (.cons (.assign (.var 3) (.bin .sub (.len (.var 2)) (.int 1)))
  (.cons (.assign (.var 4) (.slice (.bin .add (.attr (.var 0) "head") (.attr (.var 1) "head")) .none (.var 3)))
  (.cons (.ite (.cmp (.attr (.var 0) "size") (.one .ge (.var 3))) (.cons (.assign (.var 4) (.attr (.var 0) "head"))
    .nil) .nil)
  (.cons (.assign (.var 5) (.attr (.var 1) "tail"))
  (.cons (.ite (.cmp (.attr (.var 1) "size") (.one .lt (.var 3))) (.cons (.assign (.var 8) (.bin .add (.attr (.var 0) "tail") (.attr (.var 1) "tail")))
    (.cons (.assign (.var 5) (.slice (.var 8) (.max2 (.int 0) (.bin .sub (.len (.var 8)) (.var 3))) .none))
    .nil)) .nil)
  (.cons (.own 6 (.new "Piece" (.cons (.bin .add (.attr (.var 0) "size") (.attr (.var 1) "size")) (.cons (.var 4) (.cons (.var 5) .nil)))))
  (.cons (.assign (.var 7) (.call "crossing" (.cons (.var 0) (.cons (.var 1) (.cons (.var 2) .nil)))))
  (.cons (.setattr (.var 6) "times" (.bin .add (.bin .add (.attr (.var 0) "times") (.len (.var 7))) (.attr (.var 1) "times")))
  (.cons (.setattr (.var 6) "first" (.attr (.var 0) "first"))
  (.cons (.ite (.and (.cmp (.attr (.var 6) "first") (.one .is .none)) (.cmp (.len (.var 7)) (.one .gt (.int 0)))) (.cons (.setattr (.var 6) "first" (.sub (.var 7) (.int 0)))
    .nil) .nil)
  (.cons (.ite (.and (.cmp (.attr (.var 6) "first") (.one .is .none)) (.cmp (.attr (.var 1) "first") (.one .isnot .none))) (.cons (.setattr (.var 6) "first" (.bin .add (.attr (.var 0) "size") (.attr (.var 1) "first")))
    .nil) .nil)
  (.cons (.ret (.var 6))
  .nil))))))))))))⟩
noncomputable def F_piece_by : Fn := ⟨3, ["symbol", "pieces", "word"], 3,
  (.cons (.ite (.isinst (.var 0) .str) (.cons (.ret (.call "piece_of" (.cons (.var 0) (.cons (.var 2) .nil))))
    .nil) .nil)
  (.cons (.ret (.sub (.var 1) (.var 0)))
  .nil))⟩
noncomputable def F_whole : Fn := ⟨2, ["book", "word", "pieces", "rule", "found", "symbol"], 6,
  (.cons (.expr (.call "need_book" (.cons (.var 0) .nil)))
  (.cons (.ite (.or (.not (.call "is_text" (.cons (.var 1) .nil))) (.not (.cmp (.int 1) (.more .le (.len (.var 1)) (.one .le (.glob "MOST_WORD")))))) (.cons (.raise "NoWord" (.str (Str.ofString "no word of 1 to 200 signs")))
    .nil) .nil)
  (.cons (.own 2 (.list .nil))
  (.cons (.for (.var 3) (.seq (.sub (.var 0) (.int 0))) (.cons (.append (.var 2) (.pure (.call "two" (.cons (.call "piece_by" (.cons (.sub (.var 3) (.int 0)) (.cons (.var 2) (.cons (.var 1) .nil)))) (.cons (.call "piece_by" (.cons (.sub (.var 3) (.int 1)) (.cons (.var 2) (.cons (.var 1) .nil)))) (.cons (.var 1) .nil))))))
    .nil))
  (.cons (.assign (.var 4) (.new "Piece" (.cons (.int 0) (.cons (.str (Str.ofString "")) (.cons (.str (Str.ofString "")) .nil)))))
  (.cons (.for (.var 5) (.seq (.sub (.var 0) (.int 1))) (.cons (.assign (.var 4) (.call "two" (.cons (.var 4) (.cons (.call "piece_by" (.cons (.var 5) (.cons (.var 2) (.cons (.var 1) .nil)))) (.cons (.var 1) .nil)))))
    .nil))
  (.cons (.ret (.var 4))
  .nil)))))))⟩
noncomputable def F_how_often : Fn := ⟨2, ["book", "word"], 2,
  (.cons (.ret (.attr (.call "whole" (.cons (.var 0) (.cons (.var 1) .nil))) "times"))
  .nil)⟩
noncomputable def F_first_place : Fn := ⟨2, ["book", "word"], 2,
  (.cons (.ret (.attr (.call "whole" (.cons (.var 0) (.cons (.var 1) .nil))) "first"))
  .nil)⟩
noncomputable def F_law_whole : Fn := ⟨1, ["_law_found"], 1,
  (.cons (.ret (.and (.isinst (.var 0) .int) (.not (.isinst (.var 0) .bool))))
  .nil)⟩
noncomputable def F_law_cell_at : Fn := ⟨2, ["_law_script", "_law_k"], 2,
  (.cons (.ite (.cmp (.var 1) (.one .lt (.len (.var 0)))) (.cons (.ret (.sub (.var 0) (.var 1)))
    .nil) .nil)
  (.cons (.ret (.int 0))
  .nil))⟩
noncomputable def F_law_sign_by : Fn := ⟨1, ["_law_cell", "_law_some"], 2,
  (.cons (.assign (.var 1) (.str (Str.ofString " !\"#$&'()*+,-./0123456789:;<=>?@ABCDEFGHIJKLMNOPQRSTUVWXYZ[\\]^_`")))
  (.cons (.assign (.var 1) (.bin .add (.var 1) (.str (Str.ofString "abcdefghijklmnopqrstuvwxyz{|}~\n"))))
  (.cons (.ret (.sub (.var 1) (.bin .mod (.var 0) (.int 95))))
  .nil)))⟩
noncomputable def F_law_symbol_by : Fn := ⟨3, ["_law_cell", "_law_many", "_law_first"], 3,
  (.cons (.ite (.or (.cmp (.var 1) (.one .eq (.int 0))) (.cmp (.bin .mod (.var 0) (.int 3)) (.one .eq (.int 0)))) (.cons (.ret (.call "_law_sign_by" (.cons (.bin .add (.var 2) (.bin .mul (.bin .mod (.bin .fdiv (.var 0) (.int 3)) (.int 3)) (.bin .add (.int 1) (.bin .mod (.bin .fdiv (.var 2) (.int 95)) (.int 94))))) .nil)))
    .nil) .nil)
  (.cons (.ite (.cmp (.bin .mod (.var 0) (.int 3)) (.one .eq (.int 1))) (.cons (.ret (.bin .sub (.var 1) (.int 1)))
    .nil) .nil)
  (.cons (.ret (.bin .mod (.bin .fdiv (.var 0) (.int 3)) (.var 1)))
  .nil)))⟩
noncomputable def F_law_book_by : Fn := ⟨2, ["_law_cells", "_law_first", "_law_rules", "_law_row", "_law_cell", "_law_one"], 6,
  (.cons (.own 2 (.list .nil))
  (.cons (.own 3 (.list .nil))
  (.cons (.for (.var 4) (.seq (.var 0)) (.cons (.ite (.cmp (.bin .mod (.var 4) (.int 3)) (.one .lt (.int 2))) (.cons (.assign (.var 5) (.call "_law_symbol_by" (.cons (.bin .fdiv (.var 4) (.int 3)) (.cons (.len (.var 2)) (.cons (.var 1) .nil)))))
      (.cons (.append (.var 2) (.pure (.tup (.cons (.var 5) (.cons (.call "_law_symbol_by" (.cons (.bin .fdiv (.var 4) (.int 47)) (.cons (.len (.var 2)) (.cons (.var 1) .nil)))) .nil)))))
      .nil)) (.cons (.append (.var 3) (.pure (.call "_law_symbol_by" (.cons (.bin .fdiv (.var 4) (.int 3)) (.cons (.len (.var 2)) (.cons (.var 1) .nil))))))
      .nil))
    .nil))
  (.cons (.ret (.tup (.cons (.var 2) (.cons (.var 3) .nil))))
  .nil))))⟩
noncomputable def F_law_small : Fn := ⟨2, ["_law_book", "_law_most", "_law_sizes", "_law_rules", "_law_row", "_law_left", "_law_symbol", "_law_one", "_law_other", "_law_size_here"], 10,
  (.cons (.own 2 (.list .nil))
  (.cons (.own 3 (.list .nil))
  (.cons (.for (.tup [7, 8]) (.seq (.sub (.var 0) (.int 0))) (.cons (.assign (.var 9) (.bin .add (.call "_law_size" (.cons (.var 7) (.cons (.var 2) .nil))) (.call "_law_size" (.cons (.var 8) (.cons (.var 2) .nil)))))
    (.cons (.ite (.cmp (.var 9) (.one .gt (.var 1))) (.cons (.assign (.tup [7, 8, 9]) (.tup (.cons (.str (Str.ofString "a")) (.cons (.str (Str.ofString "b")) (.cons (.int 2) .nil)))))
      .nil) .nil)
    (.cons (.append (.var 3) (.pure (.tup (.cons (.var 7) (.cons (.var 8) .nil)))))
    (.cons (.append (.var 2) (.pure (.var 9)))
    .nil)))))
  (.cons (.own 4 (.list .nil))
  (.cons (.assign (.var 5) (.bin .mul (.int 4) (.var 1)))
  (.cons (.for (.var 6) (.seq (.sub (.var 0) (.int 1))) (.cons (.ite (.cmp (.call "_law_size" (.cons (.var 6) (.cons (.var 2) .nil))) (.one .le (.var 5))) (.cons (.append (.var 4) (.pure (.var 6)))
      (.cons (.assign (.var 5) (.bin .sub (.var 5) (.call "_law_size" (.cons (.var 6) (.cons (.var 2) .nil)))))
      .nil)) .nil)
    .nil))
  (.cons (.ret (.tup (.cons (.var 3) (.cons (.var 4) .nil))))
  .nil)))))))⟩
noncomputable def F_law_size : Fn := ⟨2, ["_law_symbol", "_law_sizes"], 2,
  (.cons (.ite (.isinst (.var 0) .str) (.cons (.ret (.int 1))
    .nil) .nil)
  (.cons (.ret (.sub (.var 1) (.var 0)))
  .nil))⟩
noncomputable def F_law_told : Fn := ⟨1, ["_law_book", "_law_texts", "_law_pair"], 4,
  (.cons (.own 1 (.list .nil))
  (.cons (.for (.var 2) (.seq (.sub (.var 0) (.int 0))) (.cons (.append (.var 1) (.pure (.join (.str (Str.ofString "")) (.comp (.ite (.isinst (.var 3) .str) (.var 3) (.sub (.var 1) (.var 3))) (.var 3) (.seq (.var 2))))))
    .nil))
  (.cons (.ret (.join (.str (Str.ofString "")) (.comp (.ite (.isinst (.var 3) .str) (.var 3) (.sub (.var 1) (.var 3))) (.var 3) (.seq (.sub (.var 0) (.int 1))))))
  .nil)))⟩
noncomputable def F_law_word : Fn := ⟨3, ["_law_text", "_law_script", "_law_first_cell", "_law_cell", "_law_more", "_law_start", "_law_size_here", "_law_word_here", "_law_spot"], 9,
  (.cons (.assign (.var 3) (.call "_law_cell_at" (.cons (.var 1) (.cons (.int 1) .nil))))
  (.cons (.assign (.var 4) (.call "_law_cell_at" (.cons (.var 1) (.cons (.int 2) .nil))))
  (.cons (.ite (.or (.cmp (.var 0) (.one .eq (.str (Str.ofString "")))) (.cmp (.bin .mod (.var 4) (.int 5)) (.one .eq (.int 4)))) (.cons (.ret (.bin .mul (.call "_law_sign_by" (.cons (.var 2) .nil)) (.bin .add (.int 1) (.bin .mod (.var 3) (.int 200)))))
    .nil) .nil)
  (.cons (.assign (.var 5) (.bin .mod (.var 3) (.len (.var 0))))
  (.cons (.assign (.var 6) (.bin .add (.int 1) (.bin .mod (.bin .fdiv (.var 4) (.int 5)) (.int 8))))
  (.cons (.ite (.cmp (.bin .mod (.var 4) (.int 5)) (.one .eq (.int 3))) (.cons (.assign (.var 6) (.bin .add (.int 1) (.bin .mod (.bin .fdiv (.var 4) (.int 5)) (.int 200))))
    .nil) .nil)
  (.cons (.assign (.var 7) (.slice (.var 0) (.var 5) (.bin .add (.var 5) (.var 6))))
  (.cons (.ite (.cmp (.bin .mod (.var 4) (.int 5)) (.one .eq (.int 2))) (.cons (.assign (.var 8) (.bin .mod (.bin .fdiv (.var 4) (.int 40)) (.len (.var 7))))
    (.cons (.assign (.var 7) (.bin .add (.bin .add (.slice (.var 7) .none (.var 8)) (.call "_law_sign_by" (.cons (.bin .fdiv (.var 4) (.int 40)) .nil))) (.slice (.var 7) (.bin .add (.var 8) (.int 1)) .none)))
    .nil)) .nil)
  (.cons (.ret (.var 7))
  .nil)))))))))⟩
noncomputable def F_law_places : Fn := ⟨2, ["_law_text", "_law_word_here"], 3,
  (.cons (.ret (.compIf (.var 2) (.var 2) (.range1 (.bin .add (.bin .sub (.len (.var 0)) (.len (.var 1))) (.int 1))) (.cmp (.slice (.var 0) (.var 2) (.bin .add (.var 2) (.len (.var 1)))) (.one .eq (.var 1)))))
  .nil)⟩
noncomputable def F_law : Fn := ⟨1, ["_law_script", "_law_first_cell", "_law_book", "_law_text", "_law_word_here", "_law_due", "_law_handed", "_law_many", "_law_where"], 9,
  (.cons (.assign (.var 1) (.call "_law_cell_at" (.cons (.var 0) (.cons (.int 0) .nil))))
  (.cons (.assign (.var 2) (.call "_law_small" (.cons (.call "_law_book_by" (.cons (.slice (.var 0) (.int 3) (.int 62)) (.cons (.var 1) .nil))) (.cons (.int 200) .nil))))
  (.cons (.assign (.var 3) (.call "_law_told" (.cons (.var 2) .nil)))
  (.cons (.assign (.var 4) (.call "_law_word" (.cons (.var 3) (.cons (.var 0) (.cons (.var 1) .nil)))))
  (.cons (.assign (.var 5) (.call "_law_places" (.cons (.var 3) (.cons (.var 4) .nil))))
  (.cons (.assign (.var 6) (.tup (.cons (.listOf (.seq (.sub (.var 2) (.int 0)))) (.cons (.listOf (.seq (.sub (.var 2) (.int 1)))) .nil))))
  (.cons (.assign (.var 7) (.call "how_often" (.cons (.var 6) (.cons (.var 4) .nil))))
  (.cons (.assign (.var 8) (.call "first_place" (.cons (.var 6) (.cons (.var 4) .nil))))
  (.cons (.ite (.or (.not (.call "_law_whole" (.cons (.var 7) .nil))) (.or (.cmp (.var 7) (.one .ne (.len (.var 5)))) (.cmp (.var 6) (.one .ne (.var 2))))) (.cons (.ret (.bool false))
    .nil) .nil)
  (.cons (.ite (.cmp (.var 5) (.one .eq (.list .nil))) (.cons (.ret (.cmp (.var 8) (.one .is .none)))
    .nil) .nil)
  (.cons (.ret (.and (.call "_law_whole" (.cons (.var 8) .nil)) (.cmp (.var 8) (.one .eq (.sub (.var 5) (.int 0))))))
  .nil)))))))))))⟩
noncomputable def tbl : Tbl := [("is_whole", F_is_whole), ("is_text", F_is_text), ("is_symbol", F_is_symbol), ("is_rule", F_is_rule), ("need_book", F_need_book), ("piece_of", F_piece_of), ("crossing", F_crossing), ("two", F_two), ("piece_by", F_piece_by), ("whole", F_whole), ("how_often", F_how_often), ("first_place", F_first_place), ("_law_whole", F_law_whole), ("_law_cell_at", F_law_cell_at), ("_law_sign_by", F_law_sign_by), ("_law_symbol_by", F_law_symbol_by), ("_law_book_by", F_law_book_by), ("_law_small", F_law_small), ("_law_size", F_law_size), ("_law_told", F_law_told), ("_law_word", F_law_word), ("_law_places", F_law_places), ("law", F_law)]
noncomputable def gtab : List (String × V) := [("SIGNS", .str (Str.ofString " !\"#$&'()*+,-./0123456789:;<=>?@ABCDEFGHIJKLMNOPQRSTUVWXYZ[\\]^_`abcdefghijklmnopqrstuvwxyz{|}~\n")), ("MOST_RULES", .int 600), ("MOST_ROW", .int 2000), ("MOST_WORD", .int 200)]
noncomputable def ctab (ad : Nat) : Clss := [("Piece", ad, 3, [("size", .arg 0), ("head", .arg 1), ("tail", .arg 2), ("times", .val (.int 0)), ("first", .val .none)])]
end L06
end

section
set_option autoImplicit false
set_option linter.unusedSimpArgs false
set_option linter.unusedVariables false
namespace L06
open PySem Mine Mine.Lib
theorem has : Has tbl gtab := ⟨rfl, rfl, rfl, rfl, rfl, rfl, rfl, rfl⟩
theorem hs : Hs tbl := ⟨⟨rfl, rfl, rfl, ⟨_, rfl⟩⟩, rfl, rfl, rfl⟩
theorem hp : HsP tbl := ⟨rfl, rfl, rfl, rfl, rfl⟩
theorem main (ad : Nat) (ns : List Int) (h : ns.length ≤ 63) : (cxN tbl gtab (ctab ad) 30).call "law" [.lst (ns.map V.int)] (fun _ => none) (fun v => v = .bool true) (fun _ => False) := by
  show (cxN tbl gtab (ctb ad) 30).call "law" [.lst (ns.map V.int)] (fun _ => none) (fun v => v = .bool true) (fun _ => False)
  refine call_of (fn := F_law) rfl rfl (by decide) ?_
  show WB _ F_law.body ⟨[some (.lst (ns.map V.int)), none, none, none, none, none, none, none, none], fun _ => none, fun _ => none⟩ _ _
  unfold F_law
  refine wb_cons ?_
  simp only [ws_0, ws_1, ws_2, ws_3, ws_4, ws_5, ws_6, ws_7, ws_8, ws_9, ws_10, ws_11, ws_12, ws_13, pk_ret, pk_next, we_0, we_1, we_2, we_3, we_4, we_5, we_6, we_7, we_8, we_9, we_10, we_11, we_12, we_13, we_14, we_15, we_16, we_17, we_18, we_19, we_20, we_21, we_22, we_23, we_24, we_25, we_26, we_27, we_28, we_29, we_30, we_31, we_32, we_33, we_34, we_35, wes_0, wes_1, List.getElem?_cons_zero, List.getElem?_cons_succ]
  refine sp_cell (k := 0) hs.cell fun i => ?_
  simp only [lb_var, lp_0, lp_1, lp_2, lp_3, lp_4, lp_5, lp_6, lp_7, lp_8, lp_9, lp_10, lp_11, lp_12, lp_13]
  refine wb_cons ?_
  simp only [ws_0, ws_1, ws_2, ws_3, ws_4, ws_5, ws_6, ws_7, ws_8, ws_9, ws_10, ws_11, ws_12, ws_13, pk_ret, pk_next, we_0, we_1, we_2, we_3, we_4, we_5, we_6, we_7, we_8, we_9, we_10, we_11, we_12, we_13, we_14, we_15, we_16, we_17, we_18, we_19, we_20, we_21, we_22, we_23, we_24, we_25, we_26, we_27, we_28, we_29, we_30, we_31, we_32, we_33, we_34, we_35, wes_0, wes_1, List.getElem?_cons_zero, List.getElem?_cons_succ, sl_str, sl_lst, sq_none, sq_bool, sq_int, sq_str, sq_tup, sq_lst, sq_ref, sq_inst, sq_iref, bn_none, bn_int, bn_bool, bn_str, bn_tup, bn_lst, bn_ref, bn_inst, bn_iref, List.length_map]
  rw [cut_map]
  have hc := cutL_length ns (clip ns.length 3) (clip ns.length 62)
  refine sp_bookby hs.toHs0 (by omega) fun rs0 row0 hr0 hw0 hl0 => ?_
  refine sp_small hs hr0 hw0 (by omega) (by omega) fun rs row hr hw hl1 hl2 h200 h800 => ?_
  simp only [lb_var, lp_0, lp_1, lp_2, lp_3, lp_4, lp_5, lp_6, lp_7, lp_8, lp_9, lp_10, lp_11, lp_12, lp_13]
  refine wb_cons ?_
  simp only [ws_0, ws_1, ws_2, ws_3, ws_4, ws_5, ws_6, ws_7, ws_8, ws_9, ws_10, ws_11, ws_12, ws_13, pk_ret, pk_next, we_0, we_1, we_2, we_3, we_4, we_5, we_6, we_7, we_8, we_9, we_10, we_11, we_12, we_13, we_14, we_15, we_16, we_17, we_18, we_19, we_20, we_21, we_22, we_23, we_24, we_25, we_26, we_27, we_28, we_29, we_30, we_31, we_32, we_33, we_34, we_35, wes_0, wes_1, List.getElem?_cons_zero, List.getElem?_cons_succ]
  refine sp_told hs hr hw (by omega) (by omega) (fun l hl => Nat.le_trans (h200 l hl) (by omega)) (by omega) ?_
  simp only [lb_var, lp_0, lp_1, lp_2, lp_3, lp_4, lp_5, lp_6, lp_7, lp_8, lp_9, lp_10, lp_11, lp_12, lp_13]
  refine wb_cons ?_
  simp only [ws_0, ws_1, ws_2, ws_3, ws_4, ws_5, ws_6, ws_7, ws_8, ws_9, ws_10, ws_11, ws_12, ws_13, pk_ret, pk_next, we_0, we_1, we_2, we_3, we_4, we_5, we_6, we_7, we_8, we_9, we_10, we_11, we_12, we_13, we_14, we_15, we_16, we_17, we_18, we_19, we_20, we_21, we_22, we_23, we_24, we_25, we_26, we_27, we_28, we_29, we_30, we_31, we_32, we_33, we_34, we_35, wes_0, wes_1, List.getElem?_cons_zero, List.getElem?_cons_succ]
  refine sp_law_word rfl hs.cell rfl (by omega) (bt_sg hr hw) fun W hW hW2 hS => ?_
  simp only [lb_var, lp_0, lp_1, lp_2, lp_3, lp_4, lp_5, lp_6, lp_7, lp_8, lp_9, lp_10, lp_11, lp_12, lp_13]
  refine wb_cons ?_
  simp only [ws_0, ws_1, ws_2, ws_3, ws_4, ws_5, ws_6, ws_7, ws_8, ws_9, ws_10, ws_11, ws_12, ws_13, pk_ret, pk_next, we_0, we_1, we_2, we_3, we_4, we_5, we_6, we_7, we_8, we_9, we_10, we_11, we_12, we_13, we_14, we_15, we_16, we_17, we_18, we_19, we_20, we_21, we_22, we_23, we_24, we_25, we_26, we_27, we_28, we_29, we_30, we_31, we_32, we_33, we_34, we_35, wes_0, wes_1, List.getElem?_cons_zero, List.getElem?_cons_succ]
  refine sp_places rfl (by omega) hW (by omega) ?_
  simp only [lb_var, lp_0, lp_1, lp_2, lp_3, lp_4, lp_5, lp_6, lp_7, lp_8, lp_9, lp_10, lp_11, lp_12, lp_13]
  refine wb_asg (bookV rs row) (fun Q' hq => ?_) rfl ?_
  · simp only [we_0, we_1, we_2, we_3, we_4, we_5, we_6, we_7, we_8, we_9, we_10, we_11, we_12, we_13, we_14, we_15, we_16, we_17, we_18, we_19, we_20, we_21, we_22, we_23, we_24, we_25, we_26, we_27, we_28, we_29, we_30, we_31, we_32, we_33, we_34, we_35, wes_0, wes_1, wi_0, wi_1, wi_2, wi_3, wi_4, wi_5, wi_6, wi_7, rg1, rg2, rg3, List.getElem?_cons_zero, List.getElem?_cons_succ, book0, book1, iv_none, iv_bool, iv_int, iv_str, iv_tup, iv_lst, iv_ref, iv_inst, iv_iref, List.length_map, sizeLine_val]
    exact ⟨by omega, by omega, Nat.le_of_ble_eq_true rfl, hq⟩
  simp only [List.set_cons_zero, List.set_cons_succ]
  refine wb_cons ?_
  simp only [ws_0, ws_1, ws_2, ws_3, ws_4, ws_5, ws_6, ws_7, ws_8, ws_9, ws_10, ws_11, ws_12, ws_13, pk_ret, pk_next, we_0, we_1, we_2, we_3, we_4, we_5, we_6, we_7, we_8, we_9, we_10, we_11, we_12, we_13, we_14, we_15, we_16, we_17, we_18, we_19, we_20, we_21, we_22, we_23, we_24, we_25, we_26, we_27, we_28, we_29, we_30, we_31, we_32, we_33, we_34, we_35, wes_0, wes_1, List.getElem?_cons_zero, List.getElem?_cons_succ]
  refine sp_how has hp rfl rfl hr hw (by omega) (by omega) hW hW2 hS ?_
  simp only [lb_var, lp_0, lp_1, lp_2, lp_3, lp_4, lp_5, lp_6, lp_7, lp_8, lp_9, lp_10, lp_11, lp_12, lp_13]
  refine wb_cons ?_
  simp only [ws_0, ws_1, ws_2, ws_3, ws_4, ws_5, ws_6, ws_7, ws_8, ws_9, ws_10, ws_11, ws_12, ws_13, pk_ret, pk_next, we_0, we_1, we_2, we_3, we_4, we_5, we_6, we_7, we_8, we_9, we_10, we_11, we_12, we_13, we_14, we_15, we_16, we_17, we_18, we_19, we_20, we_21, we_22, we_23, we_24, we_25, we_26, we_27, we_28, we_29, we_30, we_31, we_32, we_33, we_34, we_35, wes_0, wes_1, List.getElem?_cons_zero, List.getElem?_cons_succ]
  refine sp_first has hp rfl rfl hr hw (by omega) (by omega) hW hW2 hS ?_
  simp only [lb_var, lp_0, lp_1, lp_2, lp_3, lp_4, lp_5, lp_6, lp_7, lp_8, lp_9, lp_10, lp_11, lp_12, lp_13]
  generalize occs W (bt rs row) = os
  refine wb_if false (fun Q' hq => ?_) nofun fun _ => ?_
  · refine we_or false false (fun Q' hq => ?_) (fun _ Q' hq => ?_) hq
    · simp only [we_0, we_1, we_2, we_3, we_4, we_5, we_6, we_7, we_8, we_9, we_10, we_11, we_12, we_13, we_14, we_15, we_16, we_17, we_18, we_19, we_20, we_21, we_22, we_23, we_24, we_25, we_26, we_27, we_28, we_29, we_30, we_31, we_32, we_33, we_34, we_35, wes_0, wes_1, List.getElem?_cons_zero, List.getElem?_cons_succ]
      exact sp_lwhole rfl true false rfl rfl hq
    · refine we_or false false (fun Q' hq => ?_) (fun _ Q' hq => ?_) hq
      · simp only [we_0, we_1, we_2, we_3, we_4, we_5, we_6, we_7, we_8, we_9, we_10, we_11, we_12, we_13, we_14, we_15, we_16, we_17, we_18, we_19, we_20, we_21, we_22, we_23, we_24, we_25, we_26, we_27, we_28, we_29, we_30, we_31, we_32, we_33, we_34, we_35, wch_0, wch_1, List.getElem?_cons_zero, List.getElem?_cons_succ, zv_none, zv_bool, zv_int, zv_str, zv_tup, zv_lst, zv_ref, zv_inst, zv_iref, List.length_map, cv_eq, cv_ne, cv_lt, cv_le, cv_gt, cv_ge, cv_isin, cv_notin, eqV_int, decide_true]
        exact hq
      · simp only [we_0, we_1, we_2, we_3, we_4, we_5, we_6, we_7, we_8, we_9, we_10, we_11, we_12, we_13, we_14, we_15, we_16, we_17, we_18, we_19, we_20, we_21, we_22, we_23, we_24, we_25, we_26, we_27, we_28, we_29, we_30, we_31, we_32, we_33, we_34, we_35, wch_0, wch_1, List.getElem?_cons_zero, List.getElem?_cons_succ, cv_eq, cv_ne, cv_lt, cv_le, cv_gt, cv_ge, cv_isin, cv_notin]
        exact eqV_same (.book (n := 61) _ _) hq
  refine wb_nil ?_
  cases os with
  | nil =>
    refine wb_if true (fun Q' hq => ?_) (fun _ => ?_) nofun
    · simp only [we_0, we_1, we_2, we_3, we_4, we_5, we_6, we_7, we_8, we_9, we_10, we_11, we_12, we_13, we_14, we_15, we_16, we_17, we_18, we_19, we_20, we_21, we_22, we_23, we_24, we_25, we_26, we_27, we_28, we_29, we_30, we_31, we_32, we_33, we_34, we_35, wes_0, wes_1, wch_0, wch_1, List.getElem?_cons_zero, List.getElem?_cons_succ, cv_eq, cv_ne, cv_lt, cv_le, cv_gt, cv_ge, cv_isin, cv_notin]
      exact ⟨by decide, eqV_same (.mono (n := 1) (.lst nofun) (by decide)) hq⟩
    · refine wb_cons ?_
      simp only [ws_0, ws_1, ws_2, ws_3, ws_4, ws_5, ws_6, ws_7, ws_8, ws_9, ws_10, ws_11, ws_12, ws_13, pk_ret, pk_next, we_0, we_1, we_2, we_3, we_4, we_5, we_6, we_7, we_8, we_9, we_10, we_11, we_12, we_13, we_14, we_15, we_16, we_17, we_18, we_19, we_20, we_21, we_22, we_23, we_24, we_25, we_26, we_27, we_28, we_29, we_30, we_31, we_32, we_33, we_34, we_35, wch_0, wch_1, List.getElem?_cons_zero, List.getElem?_cons_succ, List.head?_nil, fV, cv_is, isNone]
      rfl
  | cons k os =>
    refine wb_if false (fun Q' hq => ?_) nofun fun _ => wb_nil ?_
    · simp only [we_0, we_1, we_2, we_3, we_4, we_5, we_6, we_7, we_8, we_9, we_10, we_11, we_12, we_13, we_14, we_15, we_16, we_17, we_18, we_19, we_20, we_21, we_22, we_23, we_24, we_25, we_26, we_27, we_28, we_29, we_30, we_31, we_32, we_33, we_34, we_35, wes_0, wes_1, wch_0, wch_1, List.getElem?_cons_zero, List.getElem?_cons_succ, cv_eq, cv_ne, cv_lt, cv_le, cv_gt, cv_ge, cv_isin, cv_notin]
      refine ⟨by decide, ?_⟩
      have hd : ∀ l : List Nat, Dn 1 (.lst (l.map fun (k : Nat) => V.int k)) := fun l => .lst fun v hv => by
        obtain ⟨k, _, rfl⟩ := List.mem_map.mp hv
        exact .int _
      obtain ⟨x, hx, hdx, _⟩ := hd (k :: os)
      have hxl : ∃ y ys, x = .list (y :: ys) := by
        rw [List.map_cons] at hx
        simp only [td_none, td_bool, td_int, td_str, td_tup, td_lst, td_ref, td_inst, td_iref, tds_nil, tds_cons] at hx
        cases e : toDs (os.map fun (k : Nat) => V.int k) with
        | none => rw [e] at hx; cases hx
        | some ys => rw [e] at hx; cases hx; exact ⟨_, _, rfl⟩
      obtain ⟨y, ys, rfl⟩ := hxl
      have he : PyData.eqv (.list (y :: ys)) (.list []) = false := by simp only [ev_int, ev_str, ev_bool, ev_none, ev_list, ev_tup]; first | rfl | (cases y <;> rfl) | (unfold PyData.eqvAll; rfl)
      unfold eqV
      simp only [rv_none, rv_bool, rv_int, rv_str, rv_tup, rv_lst, rv_ref, rv_inst, rv_iref, hx, show toD (.lst []) = some (.list []) by rfl, he]
      exact ⟨by omega, hq⟩
    · refine wb_cons ?_
      simp only [ws_0, ws_1, ws_2, ws_3, ws_4, ws_5, ws_6, ws_7, ws_8, ws_9, ws_10, ws_11, ws_12, ws_13, pk_ret, pk_next, we_0, we_1, we_2, we_3, we_4, we_5, we_6, we_7, we_8, we_9, we_10, we_11, we_12, we_13, we_14, we_15, we_16, we_17, we_18, we_19, we_20, we_21, we_22, we_23, we_24, we_25, we_26, we_27, we_28, we_29, we_30, we_31, we_32, we_33, we_34, we_35, wes_0, wes_1, List.getElem?_cons_zero, List.getElem?_cons_succ, List.head?_cons, fV]
      refine sp_lwhole rfl true false rfl rfl ?_
      simp only [tv_none, tv_bool, tv_int, tv_str, tv_tup, tv_lst, tv_ref, tv_inst, tv_iref, Bool.not_false, Bool.and_true, we_0, we_1, we_2, we_3, we_4, we_5, we_6, we_7, we_8, we_9, we_10, we_11, we_12, we_13, we_14, we_15, we_16, we_17, we_18, we_19, we_20, we_21, we_22, we_23, we_24, we_25, we_26, we_27, we_28, we_29, we_30, we_31, we_32, we_33, we_34, we_35, wch_0, wch_1, List.getElem?_cons_zero, List.getElem?_cons_succ, sb_tup, sb_lst, sb_str, sb_ref, List.map_cons, idx_zero (show 0 < (V.int (k : Int) :: os.map fun (k : Nat) => V.int k).length by simp), cv_eq, cv_ne, cv_lt, cv_le, cv_gt, cv_ge, cv_isin, cv_notin, eqV_int, decide_true]
      rfl
end L06
end

end Mine

section
set_option autoImplicit false
namespace Mine
open PySem

/-- what a block's names are: the frame's names and their numbers, how many are in use, the table -/
structure Sc where
  σ : List (Str × Nat)
  used : Nat
  names : List (Str × NameKind)
  fns : List String

noncomputable def opOf : Bop → Operator
  | .add => .Add | .sub => .Sub | .mul => .Mult | .fdiv => .FloorDiv | .mod => .Mod | .pow => .Pow
noncomputable def copOf : Cop → CmpOp
  | .eq => .Eq | .ne => .NotEq | .lt => .Lt | .le => .LtE | .gt => .Gt | .ge => .GtE | .is => .Is | .isnot => .IsNot | .isin => .In | .notin => .NotIn
noncomputable def tyName : Ty → String
  | .int => "int" | .bool => "bool" | .str => "str" | .tuple => "tuple" | .list => "list" | .own c => c | .ValueError => "ValueError"

noncomputable def isGlob (c : Sc) (x : Str) (n : String) : Bool := decide (x = Str.ofString n) && decide (c.names.lookup x = some .globalImplicit) && !(x == ("__debug__" : Str))
noncomputable def isVar (c : Sc) (x : Str) (i : Nat) : Bool := decide (c.σ.lookup x = some i) && !(x == ("__debug__" : Str))
noncomputable def noStar (x : Expr) : Bool := by cases x with
  | Starred => exact false
  | _ => exact true
/-- no slice, and no written super() -/
noncomputable def plainX (x : Expr) : Bool := by cases x with
  | Starred => exact false
  | Slice => exact false
  | _ => exact true

/-- the names that a target of a comprehension binds, in the comprehension's own table -/
noncomputable def tgNames : Expr → Option (List Str)
  | .Name x _ => some [x]
  | .Tuple [.Name x _, .Name y _] _ _ => some [x, y]
  | _ => none
noncomputable def tgIs (n : Nat) (t : Tg) (xs : List Str) : Bool := by cases t with
  | var i => exact i == n && xs.length == 1
  | tup is => exact decide (is = [n, n + 1]) && xs.length == 2
noncomputable def inner (c : Sc) (xs : List Str) (names : List (Str × NameKind)) : Sc :=
  ⟨(xs.zip (List.range' c.used xs.length)) ++ c.σ.filter (fun p => decide (names.lookup p.1 = some .free)), c.used + xs.length, names, c.fns⟩
/-- a comprehension's own table: its targets, names of the frame, globals -/
noncomputable def tableOk (c : Sc) (xs : List Str) (sc : Scope) : Bool :=
  decide (sc.kind = .function) && xs.all (fun x => decide (sc.names.lookup x = some .local) && !(x == (".0" : Str))) && decide xs.Nodup &&
  sc.names.all (fun p => match p.2 with
    | .local => xs.contains p.1 || p.1 == (".0" : Str)
    | .free => decide (sc.names.lookup p.1 = some .free) && (c.σ.lookup p.1).isSome && (decide (c.names.lookup p.1 = some .cell) || decide (c.names.lookup p.1 = some .free)) && !(p.1 == ("__classdict__" : Str))
    | .globalImplicit => true
    | _ => false) && decide (sc.names.map (·.1)).Nodup

noncomputable def canStore (c : Sc) (x : Str) : Bool := decide (c.names.lookup x = some .local) || decide (c.names.lookup x = some .cell)
noncomputable def isSetX (x : Expr) : Bool := by cases x with
  | Set => exact true
  | _ => exact false
noncomputable def listable (x : It) : Bool := by cases x with
  | seq => exact true
  | _ => exact false
noncomputable def walk (x : It) : Bool := by cases x with
  | rev => exact false
  | _ => exact true
noncomputable def plainTy (x : Ty) : Bool := by cases x with
  | own => exact false
  | ValueError => exact false
  | _ => exact true
noncomputable def isTupX (x : Expr) : Bool := by cases x with
  | Tuple => exact true
  | _ => exact false
noncomputable def isEZ (x : It) : Bool := by cases x with
  | enum => exact true
  | zip => exact true
  | _ => exact false
noncomputable def ezOk (it : It) (x : Expr) : Bool := walk it && (!isEZ it || isTupX x)
theorem ezOk_inv {it : It} {x : Expr} (h : ezOk it x = true) (e : isEZ it = true) : isTupX x = true := by
  have h := ((Bool.and_eq_true _ _).mp h).2
  rw [e] at h
  exact h
theorem ezOk_walk {it : It} {x : Expr} (h : ezOk it x = true) : walk it = true := ((Bool.and_eq_true _ _).mp h).1
noncomputable def isNoneE (x : E) : Bool := by cases x with
  | none => exact true
  | _ => exact false

/-! shapes of the program's expressions -/
theorem ff {P : Prop} (h : false = true) : P := Bool.noConfusion h
/-- of this make -/
noncomputable def Is {α β : Type} (mk : α → β) (x : β) : Type := { q : α // x = mk q }
noncomputable def onO {α : Type} (o : Option α) (f : α → Bool) : Bool := by cases o with
  | none => exact false
  | some a => exact f a
theorem onO_inv {α : Type} {o : Option α} {f : α → Bool} (h : onO o f = true) : ∃ a, f a = true := by
  cases o with
  | none => exact ff h
  | some a => exact ⟨a, h⟩
noncomputable def on1 {α β1 : Type} (o : Option α) (g1 : α → β1) (f : β1 → Bool) : Bool := onO o fun q => f (g1 q)
theorem on1_inv {α β1 : Type} {o : Option α} {g1 : α → β1} {f : β1 → Bool} (h : on1 o g1 f = true) : ∃ q, f (g1 q) = true := onO_inv h
noncomputable def on2 {α β1 β2 : Type} (o : Option α) (g1 : α → β1) (g2 : α → β2) (f : β1 → β2 → Bool) : Bool := onO o fun q => f (g1 q) (g2 q)
theorem on2_inv {α β1 β2 : Type} {o : Option α} {g1 : α → β1} {g2 : α → β2} {f : β1 → β2 → Bool} (h : on2 o g1 g2 f = true) : ∃ q, f (g1 q) (g2 q) = true := onO_inv h
noncomputable def on3 {α β1 β2 β3 : Type} (o : Option α) (g1 : α → β1) (g2 : α → β2) (g3 : α → β3) (f : β1 → β2 → β3 → Bool) : Bool := onO o fun q => f (g1 q) (g2 q) (g3 q)
theorem on3_inv {α β1 β2 β3 : Type} {o : Option α} {g1 : α → β1} {g2 : α → β2} {g3 : α → β3} {f : β1 → β2 → β3 → Bool} (h : on3 o g1 g2 g3 f = true) : ∃ q, f (g1 q) (g2 q) (g3 q) = true := onO_inv h
noncomputable def on4 {α β1 β2 β3 β4 : Type} (o : Option α) (g1 : α → β1) (g2 : α → β2) (g3 : α → β3) (g4 : α → β4) (f : β1 → β2 → β3 → β4 → Bool) : Bool := onO o fun q => f (g1 q) (g2 q) (g3 q) (g4 q)
theorem on4_inv {α β1 β2 β3 β4 : Type} {o : Option α} {g1 : α → β1} {g2 : α → β2} {g3 : α → β3} {g4 : α → β4} {f : β1 → β2 → β3 → β4 → Bool} (h : on4 o g1 g2 g3 g4 f = true) : ∃ q, f (g1 q) (g2 q) (g3 q) (g4 q) = true := onO_inv h
noncomputable def aConst (x : Expr) : Option (Is (fun q : Const × Nat × Pos => Expr.Constant (q.1) (q.2.1) (q.2.2)) x) := by cases x with
  | Constant v k p => exact some ⟨(v, k, p), rfl⟩
  | _ => exact none
noncomputable def onConst (x : Expr) (f : Const → Bool) : Bool := on1 (aConst x) (fun q => q.1.1) f
noncomputable def aName (x : Expr) : Option (Is (fun q : Str × Pos => Expr.Name (q.1) (q.2)) x) := by cases x with
  | Name y p => exact some ⟨(y, p), rfl⟩
  | _ => exact none
noncomputable def onName (x : Expr) (f : Str → Bool) : Bool := on1 (aName x) (fun q => q.1.1) f
noncomputable def aBin (x : Expr) : Option (Is (fun q : Expr × Operator × Expr × Pos => Expr.BinOp (q.1) (q.2.1) (q.2.2.1) (q.2.2.2)) x) := by cases x with
  | BinOp l o r p => exact some ⟨(l, o, r, p), rfl⟩
  | _ => exact none
noncomputable def onBin (x : Expr) (f : Expr → Operator → Expr → Bool) : Bool := on3 (aBin x) (fun q => q.1.1) (fun q => q.1.2.1) (fun q => q.1.2.2.1) f
noncomputable def aUn (x : Expr) : Option (Is (fun q : UnaryOp × Expr × Pos => Expr.UnaryOp (q.1) (q.2.1) (q.2.2)) x) := by cases x with
  | UnaryOp o y p => exact some ⟨(o, y, p), rfl⟩
  | _ => exact none
noncomputable def onUn (x : Expr) (f : UnaryOp → Expr → Bool) : Bool := on2 (aUn x) (fun q => q.1.1) (fun q => q.1.2.1) f
noncomputable def aBool (x : Expr) : Option (Is (fun q : BoolOp × (List Expr) × Pos => Expr.BoolOp (q.1) (q.2.1) (q.2.2)) x) := by cases x with
  | BoolOp o ys p => exact some ⟨(o, ys, p), rfl⟩
  | _ => exact none
noncomputable def onBool (x : Expr) (f : BoolOp → (List Expr) → Pos → Bool) : Bool := on3 (aBool x) (fun q => q.1.1) (fun q => q.1.2.1) (fun q => q.1.2.2) f
noncomputable def aIf (x : Expr) : Option (Is (fun q : Expr × Expr × Expr × Pos => Expr.IfExp (q.1) (q.2.1) (q.2.2.1) (q.2.2.2)) x) := by cases x with
  | IfExp y z u p => exact some ⟨(y, z, u, p), rfl⟩
  | _ => exact none
noncomputable def onIf (x : Expr) (f : Expr → Expr → Expr → Bool) : Bool := on3 (aIf x) (fun q => q.1.1) (fun q => q.1.2.1) (fun q => q.1.2.2.1) f
noncomputable def aList (x : Expr) : Option (Is (fun q : (List Expr) × Pos => Expr.List (q.1) (q.2)) x) := by cases x with
  | List xs p => exact some ⟨(xs, p), rfl⟩
  | _ => exact none
noncomputable def onList (x : Expr) (f : (List Expr) → Bool) : Bool := on1 (aList x) (fun q => q.1.1) f
noncomputable def aTup (x : Expr) : Option (Is (fun q : (List Expr) × Nat × Pos => Expr.Tuple (q.1) (q.2.1) (q.2.2)) x) := by cases x with
  | Tuple xs k p => exact some ⟨(xs, k, p), rfl⟩
  | _ => exact none
noncomputable def onTup (x : Expr) (f : (List Expr) → Bool) : Bool := on1 (aTup x) (fun q => q.1.1) f
noncomputable def aCmp (x : Expr) : Option (Is (fun q : Expr × (List CmpOp) × (List Expr) × Pos => Expr.Compare (q.1) (q.2.1) (q.2.2.1) (q.2.2.2)) x) := by cases x with
  | Compare l o r p => exact some ⟨(l, o, r, p), rfl⟩
  | _ => exact none
noncomputable def onCmp (x : Expr) (f : Expr → (List CmpOp) → (List Expr) → Bool) : Bool := on3 (aCmp x) (fun q => q.1.1) (fun q => q.1.2.1) (fun q => q.1.2.2.1) f
noncomputable def aSub (x : Expr) : Option (Is (fun q : Expr × Expr × Pos => Expr.Subscript (q.1) (q.2.1) (q.2.2)) x) := by cases x with
  | Subscript y z p => exact some ⟨(y, z, p), rfl⟩
  | _ => exact none
noncomputable def onSub (x : Expr) (f : Expr → Expr → Bool) : Bool := on2 (aSub x) (fun q => q.1.1) (fun q => q.1.2.1) f
noncomputable def aSlice (x : Expr) : Option (Is (fun q : (Option Expr) × (Option Expr) × (Option Expr) × Pos => Expr.Slice (q.1) (q.2.1) (q.2.2.1) (q.2.2.2)) x) := by cases x with
  | Slice y z u p => exact some ⟨(y, z, u, p), rfl⟩
  | _ => exact none
noncomputable def onSlice (x : Expr) (f : (Option Expr) → (Option Expr) → (Option Expr) → Bool) : Bool := on3 (aSlice x) (fun q => q.1.1) (fun q => q.1.2.1) (fun q => q.1.2.2.1) f
noncomputable def aCall (x : Expr) : Option (Is (fun q : Expr × (List Expr) × (List Keyword) × Pos => Expr.Call (q.1) (q.2.1) (q.2.2.1) (q.2.2.2)) x) := by cases x with
  | Call g xs ks p => exact some ⟨(g, xs, ks, p), rfl⟩
  | _ => exact none
noncomputable def onCall (x : Expr) (f : Expr → (List Expr) → (List Keyword) → Pos → Bool) : Bool := on4 (aCall x) (fun q => q.1.1) (fun q => q.1.2.1) (fun q => q.1.2.2.1) (fun q => q.1.2.2.2) f
noncomputable def aAttr (x : Expr) : Option (Is (fun q : Expr × Str × Pos => Expr.Attribute (q.1) (q.2.1) (q.2.2)) x) := by cases x with
  | Attribute o n p => exact some ⟨(o, n, p), rfl⟩
  | _ => exact none
noncomputable def onAttr (x : Expr) (f : Expr → Str → Pos → Bool) : Bool := on3 (aAttr x) (fun q => q.1.1) (fun q => q.1.2.1) (fun q => q.1.2.2) f
noncomputable def aLC (x : Expr) : Option (Is (fun q : Expr × (List Comprehension) × Scope × Pos => Expr.ListComp (q.1) (q.2.1) (q.2.2.1) (q.2.2.2)) x) := by cases x with
  | ListComp y gs sc p => exact some ⟨(y, gs, sc, p), rfl⟩
  | _ => exact none
noncomputable def onLC (x : Expr) (f : Expr → (List Comprehension) → Scope → Bool) : Bool := on3 (aLC x) (fun q => q.1.1) (fun q => q.1.2.1) (fun q => q.1.2.2.1) f
theorem onConst_inv {x : Expr} {f : Const → Bool} (h : onConst x f = true) : ∃ v k p, x = .Constant v k p ∧ f v = true := let ⟨q, h⟩ := on1_inv h; ⟨_, _, _, q.2, h⟩
theorem onName_inv {x : Expr} {f : Str → Bool} (h : onName x f = true) : ∃ y p, x = .Name y p ∧ f y = true := let ⟨q, h⟩ := on1_inv h; ⟨_, _, q.2, h⟩
theorem onBin_inv {x : Expr} {f : Expr → Operator → Expr → Bool} (h : onBin x f = true) : ∃ l o r p, x = .BinOp l o r p ∧ f l o r = true := let ⟨q, h⟩ := on3_inv h; ⟨_, _, _, _, q.2, h⟩
theorem onUn_inv {x : Expr} {f : UnaryOp → Expr → Bool} (h : onUn x f = true) : ∃ o y p, x = .UnaryOp o y p ∧ f o y = true := let ⟨q, h⟩ := on2_inv h; ⟨_, _, _, q.2, h⟩
theorem onBool_inv {x : Expr} {f : BoolOp → (List Expr) → Pos → Bool} (h : onBool x f = true) : ∃ o ys p, x = .BoolOp o ys p ∧ f o ys p = true := let ⟨q, h⟩ := on3_inv h; ⟨_, _, _, q.2, h⟩
theorem onIf_inv {x : Expr} {f : Expr → Expr → Expr → Bool} (h : onIf x f = true) : ∃ y z u p, x = .IfExp y z u p ∧ f y z u = true := let ⟨q, h⟩ := on3_inv h; ⟨_, _, _, _, q.2, h⟩
theorem onList_inv {x : Expr} {f : (List Expr) → Bool} (h : onList x f = true) : ∃ xs p, x = .List xs p ∧ f xs = true := let ⟨q, h⟩ := on1_inv h; ⟨_, _, q.2, h⟩
theorem onTup_inv {x : Expr} {f : (List Expr) → Bool} (h : onTup x f = true) : ∃ xs k p, x = .Tuple xs k p ∧ f xs = true := let ⟨q, h⟩ := on1_inv h; ⟨_, _, _, q.2, h⟩
theorem onCmp_inv {x : Expr} {f : Expr → (List CmpOp) → (List Expr) → Bool} (h : onCmp x f = true) : ∃ l o r p, x = .Compare l o r p ∧ f l o r = true := let ⟨q, h⟩ := on3_inv h; ⟨_, _, _, _, q.2, h⟩
theorem onSub_inv {x : Expr} {f : Expr → Expr → Bool} (h : onSub x f = true) : ∃ y z p, x = .Subscript y z p ∧ f y z = true := let ⟨q, h⟩ := on2_inv h; ⟨_, _, _, q.2, h⟩
theorem onSlice_inv {x : Expr} {f : (Option Expr) → (Option Expr) → (Option Expr) → Bool} (h : onSlice x f = true) : ∃ y z u p, x = .Slice y z u p ∧ f y z u = true := let ⟨q, h⟩ := on3_inv h; ⟨_, _, _, _, q.2, h⟩
theorem onCall_inv {x : Expr} {f : Expr → (List Expr) → (List Keyword) → Pos → Bool} (h : onCall x f = true) : ∃ g xs ks p, x = .Call g xs ks p ∧ f g xs ks p = true := let ⟨q, h⟩ := on4_inv h; ⟨_, _, _, _, q.2, h⟩
theorem onAttr_inv {x : Expr} {f : Expr → Str → Pos → Bool} (h : onAttr x f = true) : ∃ o n p, x = .Attribute o n p ∧ f o n p = true := let ⟨q, h⟩ := on3_inv h; ⟨_, _, _, q.2, h⟩
theorem onLC_inv {x : Expr} {f : Expr → (List Comprehension) → Scope → Bool} (h : onLC x f = true) : ∃ y gs sc p, x = .ListComp y gs sc p ∧ f y gs sc = true := let ⟨q, h⟩ := on3_inv h; ⟨_, _, _, _, q.2, h⟩
noncomputable def one {α : Type} : List α → (α → Bool) → Bool
  | [x], f => f x
  | _, _ => false
noncomputable def two {α : Type} : List α → (α → α → Bool) → Bool
  | [x, y], f => f x y
  | _, _ => false
noncomputable def some1 {α : Type} : List α → Bool
  | _ :: _ => true
  | _ => false
/-- a call of a name, by place alone -/
noncomputable def onCallN (x : Expr) (f : Str → List Expr → Bool) : Bool := onCall x fun g xs ks _ => ks.isEmpty && onName g fun y => f y xs
section
variable {x : Expr}
theorem one_inv {α : Type} {xs : List α} {f : α → Bool} (h : one xs f = true) : ∃ x, xs = [x] ∧ f x = true := by
  rcases xs with _ | ⟨a, _ | ⟨b, r⟩⟩
  · exact ff h
  · exact ⟨_, rfl, h⟩
  · exact ff h
theorem two_inv {α : Type} {xs : List α} {f : α → α → Bool} (h : two xs f = true) : ∃ x y, xs = [x, y] ∧ f x y = true := by
  rcases xs with _ | ⟨a, _ | ⟨b, _ | ⟨e, r⟩⟩⟩
  · exact ff h
  · exact ff h
  · exact ⟨_, _, rfl, h⟩
  · exact ff h
theorem some1_inv {α : Type} {xs : List α} (h : some1 xs = true) : ∃ x r, xs = x :: r := by
  cases xs with
  | nil => exact ff h
  | cons a r => exact ⟨_, _, rfl⟩
theorem onCallN_inv {f : Str → List Expr → Bool} (h : onCallN x f = true) : ∃ y p xs q, x = .Call (.Name y p) xs [] q ∧ f y xs = true := by
  obtain ⟨g, xs, ks, q, rfl, k⟩ := onCall_inv h
  obtain ⟨h1, h2⟩ := (Bool.and_eq_true _ _).mp k
  obtain ⟨y, p, rfl, k3⟩ := onName_inv h2
  cases ks with
  | nil => exact ⟨_, _, _, _, rfl, k3⟩
  | cons => exact ff h1
end

noncomputable def chkN (c : Sc) (i : Nat) (e : Expr) : Bool := onName e fun x => isVar c x i && canStore c x
noncomputable def chkNs (c : Sc) : List Nat → List Expr → Bool
  | [], [] => true
  | i :: is, x :: xs => chkN c i x && chkNs c is xs
  | _, _ => false
noncomputable def chkTg (c : Sc) : Tg → Expr → Bool
  | .var i, x => chkN c i x
  | .tup is, x => onTup x fun xs => chkNs c is xs && decide is.Nodup
noncomputable def isStrE (x : E) : Bool := by cases x with
  | str => exact true
  | _ => exact false
noncomputable def optE (f : Expr → Bool) (b : Bool) : Option Expr → Bool
  | some x => f x
  | none => b
/-- two or more, by and / or -/
noncomputable def andT (f g : Expr → Bool) (o : BoolOp) : List Expr → Pos → Bool
  | [y, z], _ => f y && g z
  | [y, z, u], p => f y && g (.BoolOp o [z, u] p)
  | [y, z, u, v], p => f y && g (.BoolOp o [z, u, v] p)
  | [y, z, u, v, t], p => f y && g (.BoolOp o [z, u, v, t] p)
  | _, _ => false
theorem andT_inv {f g : Expr → Bool} {o : BoolOp} {ys : List Expr} {p : Pos} (h : andT f g o ys p = true) : (∃ y z, ys = [y, z] ∧ f y = true ∧ g z = true) ∨ (∃ y z u r, ys = y :: z :: u :: r ∧ f y = true ∧ g (.BoolOp o (z :: u :: r) p) = true) := by
  rcases ys with _ | ⟨y, _ | ⟨z, _ | ⟨u, _ | ⟨v, _ | ⟨t, _ | ⟨w, r⟩⟩⟩⟩⟩⟩
  · exact ff h
  · exact ff h
  · exact .inl ⟨_, _, rfl, (Bool.and_eq_true _ _).mp h⟩
  · exact .inr ⟨_, _, _, _, rfl, (Bool.and_eq_true _ _).mp h⟩
  · exact .inr ⟨_, _, _, _, rfl, (Bool.and_eq_true _ _).mp h⟩
  · exact .inr ⟨_, _, _, _, rfl, (Bool.and_eq_true _ _).mp h⟩
  · exact ff h
noncomputable def baseX (x : Expr) : Bool := by cases x with
  | Name => exact true
  | Subscript => exact true
  | _ => exact false
noncomputable def attrB (x : Expr) : Bool := by cases x with
  | Name => exact true
  | Call f xs ks p => exact some1 xs
  | _ => exact false
mutual
noncomputable def chkE (c : Sc) : E → Expr → Bool
  | .none, x => onConst x fun v => decide (v = .none)
  | .bool b, x => onConst x fun v => decide (v = .bool b)
  | .int i, x => onConst x fun v => decide (v = .int i)
  | .str s, x => onConst x fun v => decide (v = .str s) && decide (s.length ≤ sizeLine) && s.cps.all (· < 0x110000)
  | .var i, x => onName x fun y => isVar c y i
  | .glob g, x => onName x fun y => isGlob c y g
  | .bin op a b, x => onBin x fun l o r => decide (o = opOf op) && chkE c a l && chkE c b r
  | .neg a, x => false
  | .not a, x => onUn x fun o y => decide (o = .Not) && chkE c a y
  | .and a b, x => onBool x fun o ys p => decide (o = .And) && andT (chkE c a) (chkE c b) .And ys p
  | .or a b, x => onBool x fun o ys p => decide (o = .Or) && andT (chkE c a) (chkE c b) .Or ys p
  | .ite t a b, x => onIf x fun y z u => chkE c t y && chkE c a z && chkE c b u
  | .list es, x => onList x fun xs => chkEs c es xs
  | .tup es, x => onTup x fun xs => chkEs c es xs
  | .cmp a ch, x => onCmp x fun l ops rs => !lastMarks ops rs && chkE c a l && chkCh c ch ops rs
  | .sub a i, x => onSub x fun y z => chkE c a y && chkE c i z && plainX z
  | .slice a lo hi, x => onSub x fun y z => onSlice z fun l h s => s.isNone && chkE c a y && optE (chkE c lo) (isNoneE lo) l && optE (chkE c hi) (isNoneE hi) h
  | .call f es, x => onCallN x fun y xs => some1 xs && isGlob c y f && c.fns.contains f && chkEs c es xs
  | .isinst a t, x => onCallN x fun y xs => two xs fun z n => onName n fun u => isGlob c y "isinstance" && noStar z && chkE c a z && isGlob c u (tyName t) && plainTy t
  | .len a, x => onCallN x fun y xs => one xs fun z => isGlob c y "len" && noStar z && chkE c a z
  | .sum a, x => false
  | .max2 a b, x => onCallN x fun y xs => two xs fun z u => isGlob c y "max" && noStar z && noStar u && chkE c a z && chkE c b u
  | .min2 a b, x => false
  | .maxl a, x => false
  | .maxd a d, x => false
  | .strOf a, x => false
  | .intOf a, x => false
  | .tupOf a, x => false
  | .listOf it, x => onCallN x fun y xs => one xs fun z => isGlob c y "list" && noStar z && listable it && chkI c it z
  | .join s a, x => onCall x fun g xs ks pos => ks.isEmpty && one xs fun z => onAttr g fun o n ap => decide (n = Str.ofString "join") && noStar z && ap.endLine == pos.line && chkE c s o && isStrE s && chkE c a z
  | .get d k v, x => false
  | .dict0, _ => false
  | .attr a n, x => onAttr x fun o m _ => decide (m = Str.ofString n) && attrB o && chkE c a o
  | .new f es, x => onCallN x fun y xs => some1 xs && isGlob c y f && chkEs c es xs
  | .comp elt t it, x => onLC x fun y gs sc => one gs fun g => g.ifs.isEmpty && decide (g.is_async = 0) && (match tgNames g.target with
      | some xs => tgIs c.used t xs && tableOk c xs sc && chkTg (inner c xs sc.names) t g.target && !isSetX g.iter && ezOk it g.target && chkI c it g.iter && chkE (inner c xs sc.names) elt y
      | none => false)
  | .compIf elt t it cond, x => onLC x fun y gs sc => one gs fun g => decide (g.is_async = 0) && one g.ifs fun z => (match tgNames g.target with
      | some xs => tgIs c.used t xs && tableOk c xs sc && chkTg (inner c xs sc.names) t g.target && !isSetX g.iter && ezOk it g.target && chkI c it g.iter && chkE (inner c xs sc.names) cond z && chkE (inner c xs sc.names) elt y
      | none => false)
noncomputable def chkEs (c : Sc) : Es → List Expr → Bool
  | .nil, xs => xs.isEmpty
  | .cons e es, xs => (match xs with
    | x :: r => noStar x && chkE c e x && chkEs c es r
    | [] => false)
noncomputable def chkCh (c : Sc) : Ch → List CmpOp → List Expr → Bool
  | .one op e, ops, xs => one ops fun o => one xs fun x => decide (o = copOf op) && chkE c e x
  | .more op e ch, ops, xs => (match ops, xs with
    | o :: ops, x :: xs => some1 ops && some1 xs && decide (o = copOf op) && chkE c e x && chkCh c ch ops xs
    | _, _ => false)
noncomputable def chkI (c : Sc) : It → Expr → Bool
  | .seq e, x => chkE c e x
  | .rev e, x => false
  | .range1 a, x => onCallN x fun y xs => one xs fun z => isGlob c y "range" && noStar z && chkE c a z
  | .range2 a b, x => false
  | .range3 a b d, x => false
  | .enum a, x => false
  | .keys e, x => false
  | .zip a b, x => false
end

noncomputable def isCompE (x : E) : Bool := by cases x with
  | comp => exact true
  | compIf => exact true
  | _ => exact false
noncomputable def isComp (x : Expr) : Bool := by cases x with
  | ListComp => exact true
  | SetComp => exact true
  | DictComp => exact true
  | _ => exact false
/-- values that the compiler does not fold, or surely does -/
noncomputable def tupOk (x : Expr) : Bool := by cases x with
  | Tuple vs _ _ => exact !(vs.all (constantsAlone 8)) || vs.all (foldedForSure 8)
  | _ => exact true
noncomputable def isNameX (x : Expr) : Bool := by cases x with
  | Name => exact true
  | _ => exact false
/-! shapes of statements -/
noncomputable def saExpr (x : Stmt) : Option (Is (fun q : Expr × Pos => Stmt.Expr (q.1) (q.2)) x) := by cases x with
  | Expr y p => exact some ⟨(y, p), rfl⟩
  | _ => exact none
noncomputable def onExpr (x : Stmt) (f : Expr → Bool) : Bool := on1 (saExpr x) (fun q => q.1.1) f
noncomputable def saIfS (x : Stmt) : Option (Is (fun q : Expr × (List Stmt) × (List Stmt) × Pos => Stmt.If (q.1) (q.2.1) (q.2.2.1) (q.2.2.2)) x) := by cases x with
  | If y a b p => exact some ⟨(y, a, b, p), rfl⟩
  | _ => exact none
noncomputable def onIfS (x : Stmt) (f : Expr → (List Stmt) → (List Stmt) → Bool) : Bool := on3 (saIfS x) (fun q => q.1.1) (fun q => q.1.2.1) (fun q => q.1.2.2.1) f
noncomputable def saAssign (x : Stmt) : Option (Is (fun q : (List Expr) × Expr × Pos => Stmt.Assign (q.1) (q.2.1) (q.2.2)) x) := by cases x with
  | Assign ts y p => exact some ⟨(ts, y, p), rfl⟩
  | _ => exact none
noncomputable def kAssign (x : Stmt) (f : (List Expr) → Expr → Bool) : Bool := on2 (saAssign x) (fun q => q.1.1) (fun q => q.1.2.1) f
noncomputable def saFor (x : Stmt) : Option (Is (fun q : Expr × Expr × (List Stmt) × (List Stmt) × Pos => Stmt.For (q.1) (q.2.1) (q.2.2.1) (q.2.2.2.1) (q.2.2.2.2)) x) := by cases x with
  | For t y a b p => exact some ⟨(t, y, a, b, p), rfl⟩
  | _ => exact none
noncomputable def kFor (x : Stmt) (f : Expr → Expr → (List Stmt) → (List Stmt) → Bool) : Bool := on4 (saFor x) (fun q => q.1.1) (fun q => q.1.2.1) (fun q => q.1.2.2.1) (fun q => q.1.2.2.2.1) f
noncomputable def saRet (x : Stmt) : Option (Is (fun q : (Option Expr) × Pos => Stmt.Return (q.1) (q.2)) x) := by cases x with
  | Return y p => exact some ⟨(y, p), rfl⟩
  | _ => exact none
noncomputable def kRet (x : Stmt) (f : (Option Expr) → Bool) : Bool := on1 (saRet x) (fun q => q.1.1) f
noncomputable def onAssign (x : Stmt) (f : Expr → Expr → Bool) : Bool := kAssign x fun ts y => one ts fun t => f t y
noncomputable def onFor (x : Stmt) (f : Expr → Expr → List Stmt → Bool) : Bool := kFor x fun t y a b => b.isEmpty && f t y a
noncomputable def onRet (x : Stmt) (f : Expr → Bool) : Bool := kRet x fun y => optE f false y
theorem onExpr_inv {x : Stmt} {f : Expr → Bool} (h : onExpr x f = true) : ∃ y p, x = .Expr y p ∧ f y = true := let ⟨q, h⟩ := on1_inv h; ⟨_, _, q.2, h⟩
theorem onIfS_inv {x : Stmt} {f : Expr → (List Stmt) → (List Stmt) → Bool} (h : onIfS x f = true) : ∃ y a b p, x = .If y a b p ∧ f y a b = true := let ⟨q, h⟩ := on3_inv h; ⟨_, _, _, _, q.2, h⟩
theorem kAssign_inv {x : Stmt} {f : (List Expr) → Expr → Bool} (h : kAssign x f = true) : ∃ ts y p, x = .Assign ts y p ∧ f ts y = true := let ⟨q, h⟩ := on2_inv h; ⟨_, _, _, q.2, h⟩
theorem kFor_inv {x : Stmt} {f : Expr → Expr → (List Stmt) → (List Stmt) → Bool} (h : kFor x f = true) : ∃ t y a b p, x = .For t y a b p ∧ f t y a b = true := let ⟨q, h⟩ := on4_inv h; ⟨_, _, _, _, _, q.2, h⟩
theorem kRet_inv {x : Stmt} {f : (Option Expr) → Bool} (h : kRet x f = true) : ∃ y p, x = .Return y p ∧ f y = true := let ⟨q, h⟩ := on1_inv h; ⟨_, _, q.2, h⟩
section
variable {x : Stmt}
theorem onAssign_inv {f : Expr → Expr → Bool} (h : onAssign x f = true) : ∃ t y p, x = .Assign [t] y p ∧ f t y = true := by
  obtain ⟨ts, y, p, rfl, k⟩ := kAssign_inv h
  obtain ⟨t, rfl, k3⟩ := one_inv k
  exact ⟨_, _, _, rfl, k3⟩
theorem onFor_inv {f : Expr → Expr → List Stmt → Bool} (h : onFor x f = true) : ∃ t y a p, x = .For t y a [] p ∧ f t y a = true := by
  obtain ⟨t, y, a, b, p, rfl, k⟩ := kFor_inv h
  obtain ⟨h1, h2⟩ := (Bool.and_eq_true _ _).mp k
  cases b with
  | nil => exact ⟨_, _, _, _, rfl, h2⟩
  | cons => exact ff h1
theorem onRet_inv {f : Expr → Bool} (h : onRet x f = true) : ∃ y p, x = .Return (some y) p ∧ f y = true := by
  obtain ⟨y, p, rfl, k⟩ := kRet_inv h
  cases y with
  | none => exact ff k
  | some y => exact ⟨_, _, rfl, k⟩
end

mutual
noncomputable def chkA (c : Sc) : A → Expr → Bool
  | .pure e, x => chkE c e x
  | .thaw e, x => isFresh e && chkE c e x
  | .list as, x => onList x fun xs => chkAs c as xs
  | .dict, x => false
  | .new f es, x => onCallN x fun y xs => some1 xs && isGlob c y f && chkEs c es xs
noncomputable def chkAs (c : Sc) : As → List Expr → Bool
  | .nil, xs => xs.isEmpty
  | .cons a as, xs => (match xs with
    | x :: r => noStar x && chkA c a x && chkAs c as r
    | [] => false)
end

noncomputable def isCif (e : E) : Bool := by cases e with
  | compIf => exact true
  | _ => exact false
/-- comprehensions that a name is set to -/
noncomputable def okOwn (a : A) : Bool := by cases a with
  | pure e => exact !isCif e
  | thaw e => exact !isCompE e
  | _ => exact true
mutual
noncomputable def chkS (c : Sc) : S → Stmt → Bool
  | .expr e, x => onExpr x fun y => chkE c e y && !isComp y
  | .assign t e, x => onAssign x fun tg y => chkTg c t tg && tupOk y && chkE c e y && okOwn (.pure e)
  | .own i a, x => onAssign x fun tg y => chkN c i tg && chkA c a y && okOwn a
  | .append e a, x => onExpr x fun y => onCall y fun g xs ks cp => ks.isEmpty && one xs fun z => onAttr g fun o n ap => decide (n = Str.ofString "append") && ap.endLine == cp.line && baseX o && noStar z && chkE c e o && chkA c a z
  | .pop t e, x => false
  | .setitem e k v, x => false
  | .setkey e k v, x => false
  | .setattr e n v, x => onAssign x fun tg y => onAttr tg fun o m _ => decide (m = Str.ofString n) && isNameX o && chkE c e o && chkE c v y && !isComp y
  | .ite t a b, x => onIfS x fun y bs os => chkE c t y && chkB c a bs && chkB c b os
  | .while t b, x => false
  | .for t it b, x => onFor x fun tg y bs => chkTg c t tg && chkI c it y && !isSetX y && ezOk it tg && chkB c b bs
  | .ret e, x => onRet x fun y => chkE c e y
  | .raise _ _, _ => true
  | .tryEx _ _ _ _, _ => false
noncomputable def chkB (c : Sc) : Bl → List Stmt → Bool
  | .nil, xs => xs.isEmpty
  | .cons s b, xs => (match xs with
    | x :: r => chkS c s x && chkB c b r
    | [] => false)
end

noncomputable def fnSc (fns : List String) (fn : Fn) (d : DefRec) : Sc := ⟨(fn.vars.map Str.ofString).zip (List.range fn.vars.length), fn.vars.length, d.scope.names, fns⟩
noncomputable def plainParams (a : Arguments) : Bool := a.posonlyargs.isEmpty && a.vararg.isNone && a.kwonlyargs.isEmpty && a.kwarg.isNone && a.defaults.isEmpty && a.kw_defaults.isEmpty
noncomputable def chkFn (fns : List String) (fn : Fn) (d : DefRec) : Bool :=
  plainParams d.params && decide (d.params.args.map (·.arg) = (fn.vars.map Str.ofString).take fn.np) && decide (fn.np ≤ fn.vars.length) && decide (d.params.args.length = fn.np) &&
  decide (fn.vars.map Str.ofString).Nodup && (fn.vars.map Str.ofString).all (fun x => canStore (fnSc fns fn d) x && !(x == ("__classdict__" : Str))) && decide (d.scope.kind = .function) && !d.scope.isGenerator && !d.scope.isCoroutine &&
  d.scope.names.all (fun p => !decide (p.2 = .free)) && decide (d.scope.names.map (·.1)).Nodup && decide (fn.vars.length ≤ fn.nv) && chkB (fnSc fns fn d) fn.body d.body

noncomputable def iniC : V → Const → Bool
  | .none, k => decide (k = .none)
  | .int i, k => decide (k = .int i)
  | _, _ => false
noncomputable def chkIv (names : List Str) : Ini → Expr → Bool
  | .arg i, y => onName y fun z => decide (names[i + 1]? = some z)
  | .val v, y => onConst y fun k => iniC v k
noncomputable def chkFs (self : Str) (names : List Str) : List (String × Ini) → List Stmt → Bool
  | [], xs => xs.isEmpty
  | f :: fs, xs => (match xs with
    | x :: r => onAssign x (fun tg y => onAttr tg fun o a _ => onName o (fun z => decide (z = self)) && decide (a = Str.ofString f.1) && chkIv names f.2 y) && chkFs self names fs r
    | [] => false)
noncomputable def chkIni (n : Nat) (fs : List (String × Ini)) (params : Arguments) (body : List Stmt) (scope : Scope) : Bool :=
  plainParams params && decide (params.args.length = n + 1) && decide (params.args.map (·.arg)).Nodup && (params.args.map (·.arg)).all (fun y => decide (scope.names.lookup y = some .local) && !(y == ("__debug__" : Str))) && decide (scope.kind = .function) && !scope.isGenerator && !scope.isCoroutine &&
  scope.names.all (fun p => !decide (p.2 = .cell)) && decide (fs.map fun f => Str.ofString f.1).Nodup && decide (fs.length ≤ 50) && (match params.args with
    | a :: _ => chkFs a.arg (params.args.map (·.arg)) fs body
    | [] => false)

end Mine
end

section
set_option autoImplicit false
namespace Mine
open PySem

noncomputable abbrev HK (h h' : Heap) : Prop := ∀ b o, h.get? b = some o → h'.get? b = some o
theorem HK.trans {a b c : Heap} (x : HK a b) (y : HK b c) : HK a c := fun p o e => y p o (x p o e)
theorem HK.push (h : Heap) (o : Obj) : HK h (h.push o) := fun _ _ e => Heap.get?_push_of_some _ e

/-- nothing that stood is turned -/
noncomputable def Kp (s s' : Shared) : Prop := ∃ h' tk, s' = { s with heap := h', toks := tk } ∧ ∀ b o, s.heap.get? b = some o → h'.get? b = some o
theorem Kp.refl (s : Shared) : Kp s s := ⟨s.heap, s.toks, rfl, fun _ _ e => e⟩
theorem Kp.trans {a b c : Shared} (x : Kp a b) (y : Kp b c) : Kp a c := by
  obtain ⟨h1, t1, rfl, k1⟩ := x
  obtain ⟨h2, t2, rfl, k2⟩ := y
  exact ⟨h2, t2, rfl, fun b o e => k2 b o (k1 b o e)⟩
theorem Kp.hk {a b : Shared} (x : Kp a b) : HK a.heap b.heap := by
  obtain ⟨h1, t1, rfl, k1⟩ := x; exact k1
theorem Kp.tok (s : Shared) (t : Nat) : Kp s { s with toks := t } := ⟨s.heap, t, rfl, fun _ _ e => e⟩
theorem Kp.of {s : Shared} {h' : Heap} {t : Nat} (k : HK s.heap h') : Kp s { s with heap := h', toks := t } := ⟨h', t, rfl, k⟩
theorem Kp.ofH {s : Shared} {h' : Heap} (k : HK s.heap h') : Kp s { s with heap := h' } := ⟨h', s.toks, rfl, k⟩

inductive Place where
  | loc (L : Addr) (x : Str)
  | cell (c : Addr)
noncomputable def Place.addr : Place → Addr
  | .loc L _ => L
  | .cell c => c
noncomputable def Place.ok (h : Heap) : Place → Prop
  | .loc L _ => ∃ m, h.Ns L m
  | .cell c => ∃ v, h.IsCell c v
noncomputable def Place.has (h : Heap) (v : Value) : Place → Prop
  | .loc L x => ∃ m, h.Ns L m ∧ m x = some v
  | .cell c => h.IsCell c (some v)
theorem Place.ok.keeps {h h' : Heap} {p : Place} (x : p.ok h) (k : HK h h') : p.ok h' := by
  cases p with
  | loc L x => obtain ⟨m, hm⟩ := x; exact ⟨m, hm.keeps k⟩
  | cell c => obtain ⟨v, hv⟩ := x; exact ⟨v, hv.keeps k⟩
theorem Place.has.keeps {h h' : Heap} {p : Place} {v : Value} (x : p.has h v) (k : HK h h') : p.has h' v := by
  cases p with
  | loc L x => obtain ⟨m, hm, e⟩ := x; exact ⟨m, hm.keeps k, e⟩
  | cell c => exact Heap.IsCell.keeps x k

/-- a text that the run can bear -/
noncomputable def SOk (s : Str) : Prop := s.length ≤ sizeLine ∧ ∀ c ∈ s.cps.toList, c < 0x110000
theorem SOk.append {s t : Str} (a : SOk s) (b : SOk t) (h : s.length + t.length ≤ sizeLine) : SOk (s ++ t) := by
  refine ⟨by show (s.cps ++ t.cps).size ≤ sizeLine; rw [Array.size_append]; exact h, fun c hc => ?_⟩
  have e : (s ++ t).cps = s.cps ++ t.cps := rfl
  rw [e, Array.toList_append, List.mem_append] at hc
  exact hc.elim (a.2 c) (b.2 c)
theorem SOk.sub {s : Str} {l : List Nat} (a : SOk s) (hl : l.length ≤ s.length) (hm : ∀ c ∈ l, c ∈ s.cps.toList) : SOk ⟨l.toArray⟩ :=
  ⟨by show l.toArray.size ≤ sizeLine; rw [List.size_toArray]; exact Nat.le_trans hl a.1, fun c hc => a.2 c (hm c (by simpa using hc))⟩
theorem SOk.one {s : Str} {c : Nat} (a : SOk s) (hc : c ∈ s.cps.toList) : SOk ⟨#[c]⟩ :=
  ⟨by show 1 ≤ sizeLine; decide, fun d hd => by simp at hd; subst hd; exact a.2 d hc⟩
theorem SOk.strOk {s : Str} (a : SOk s) : PyData.strOk s = true := by
  unfold PyData.strOk
  rw [← Array.all_toList, List.all_eq_true]
  exact fun c hc => decide_eq_true (a.2 c hc)

/-- a thing of an own class, whose names lie in a -/
noncomputable def InsX (h : Heap) (x a C : Addr) : Prop := ∃ o, h.get? x = some o ∧ o.cls = .ref C ∧ (∀ c, o.data ≠ .cls c) ∧ o.dict = some a ∧ a ≠ x
noncomputable def NsOf (h : Heap) (a : Addr) (ns : List String) (xs : List Value) : Prop := ns.length = xs.length ∧ (ns.map Str.ofString).Nodup ∧ ns.length ≤ 50 ∧ h.Ns1 a (fun y => ((ns.map Str.ofString).zip xs).lookup y)
theorem InsX.at {h h' : Heap} {x a C : Addr} (i : InsX h x a C) (k : ∀ o, h.get? x = some o → h'.get? x = some o) : InsX h' x a C := let ⟨o, h1, r⟩ := i; ⟨o, k o h1, r⟩
theorem NsOf.at {h h' : Heap} {a : Addr} {ns : List String} {xs : List Value} (i : NsOf h a ns xs) (k : ∀ o, h.get? a = some o → h'.get? a = some o) : NsOf h' a ns xs := ⟨i.1, i.2.1, i.2.2.1, i.2.2.2.at k⟩
theorem InsX.ne {h : Heap} {x a C : Addr} (i : InsX h x a C) (e : h.get? x = none) : False := by obtain ⟨o, h1, _⟩ := i; rw [e] at h1; cases h1
theorem NsOf.ne {h : Heap} {a : Addr} {ns : List String} {xs : List Value} (i : NsOf h a ns xs) (e : h.get? a = none) : False := by obtain ⟨_, _, _, o, es, ep, h1, _⟩ := i; rw [e] at h1; cases h1
mutual
inductive RV (N : Addr → Prop) (h : Heap) : V → Value → Prop
  | none : RV N h .none .none
  | bool (b) : RV N h (.bool b) (.bool b)
  | int (i t) : RV N h (.int i) (.int i t)
  | str (s t) : SOk s → RV N h (.str s) (.str s t)
  | tup {a xs n vs} : ¬ N a → IsT h a xs n → xs.size ≤ sizeLine → RVs N h vs xs.toList → RV N h (.tup vs) (.ref a)
  | lst {a xs n vs} : ¬ N a → IsL h a xs n → xs.size ≤ sizeLine → RVs N h vs xs.toList → RV N h (.lst vs) (.ref a)
  | ref (a) : RV N h (.ref a) (.ref a)
  | iref {x a C ns} : ¬ N x → InsX h x a C → RV N h (.iref C ns a) (.ref x)
  | inst {x a C ns xs vs} : ¬ N x → ¬ N a → InsX h x a C → NsOf h a ns xs → RVs N h vs xs → RV N h (.inst C ns vs) (.ref x)
inductive RVs (N : Addr → Prop) (h : Heap) : List V → List Value → Prop
  | nil : RVs N h [] []
  | cons {v vs x xs} : RV N h v x → RVs N h vs xs → RVs N h (v :: vs) (x :: xs)
end

theorem RV.gen {N N' : Addr → Prop} {h h' : Heap} (hN : ∀ b, N' b → N b ∨ h.get? b = Option.none) (hk : ∀ b o, ¬ N b → h.get? b = some o → h'.get? b = some o) {v : V} {x : Value} (r : RV N h v x) : RV N' h' v x :=
  RV.rec (motive_1 := fun v x _ => RV N' h' v x) (motive_2 := fun vs xs _ => RVs N' h' vs xs) .none .bool .int .str
    (fun a1 a2 a6 _ i => .tup (fun q => (hN _ q).elim a1 fun e => by rw [a2] at e; cases e) (hk _ _ a1 a2) a6 i)
    (fun a1 a2 a6 _ i => .lst (fun q => (hN _ q).elim a1 fun e => by rw [a2] at e; cases e) (hk _ _ a1 a2) a6 i) .ref
    (fun a1 a2 => .iref (fun q => (hN _ q).elim a1 fun e => a2.ne e) (a2.at fun o e => hk _ _ a1 e))
    (fun a1 a2 a3 a5 _ i => .inst (fun q => (hN _ q).elim a1 fun e => a3.ne e) (fun q => (hN _ q).elim a2 fun e => a5.ne e) (a3.at fun o e => hk _ _ a1 e) (a5.at fun o e => hk _ _ a2 e) i)
    .nil (fun _ _ i j => .cons i j) r
theorem RVs.gen {N N' : Addr → Prop} {h h' : Heap} (hN : ∀ b, N' b → N b ∨ h.get? b = Option.none) (hk : ∀ b o, ¬ N b → h.get? b = some o → h'.get? b = some o) {vs : List V} {xs : List Value} (r : RVs N h vs xs) : RVs N' h' vs xs :=
  RVs.rec (motive_1 := fun _ _ _ => True) (motive_2 := fun vs xs _ => RVs N' h' vs xs) trivial (fun _ => trivial) (fun _ _ => trivial) (fun _ _ _ => trivial) (fun _ _ _ _ _ => trivial) (fun _ _ _ _ _ => trivial) (fun _ => trivial)
    (fun _ _ => trivial) (fun _ _ _ _ _ _ => trivial)
    .nil (fun a _ _ j => .cons (a.gen hN hk) j) r
/-- by turns, along a row -/
theorem RVs.ind {N : Addr → Prop} {h : Heap} {P : List V → List Value → Prop} (h0 : P [] []) (h1 : ∀ {v : V} {vs : List V} {x : Value} {xs : List Value}, RV N h v x → P vs xs → P (v :: vs) (x :: xs)) {vs : List V} {xs : List Value} (r : RVs N h vs xs) : P vs xs :=
  RVs.rec (motive_1 := fun _ _ _ => True) (motive_2 := fun vs xs _ => P vs xs) trivial (fun _ => trivial) (fun _ _ => trivial) (fun _ _ _ => trivial) (fun _ _ _ _ _ => trivial) (fun _ _ _ _ _ => trivial) (fun _ => trivial)
    (fun _ _ => trivial) (fun _ _ _ _ _ _ => trivial)
    h0 (fun a _ _ j => h1 a j) r
theorem RV.keeps {N : Addr → Prop} {h h' : Heap} {v : V} {x : Value} (r : RV N h v x) (k : HK h h') : RV N h' v x := r.gen (fun _ q => .inl q) fun b o _ e => k b o e
theorem RVs.keeps {N : Addr → Prop} {h h' : Heap} {v : List V} {x : List Value} (r : RVs N h v x) (k : HK h h') : RVs N h' v x := r.gen (fun _ q => .inl q) fun b o _ e => k b o e
theorem RV.less {N N' : Addr → Prop} {h : Heap} {v : V} {x : Value} (r : RV N h v x) (k : ∀ b, N' b → N b) : RV N' h v x := r.gen (fun b q => .inl (k b q)) fun _ _ _ e => e
theorem RVs.less {N N' : Addr → Prop} {h : Heap} {v : List V} {x : List Value} (r : RVs N h v x) (k : ∀ b, N' b → N b) : RVs N' h v x := r.gen (fun b q => .inl (k b q)) fun _ _ _ e => e
theorem RVs.length {N : Addr → Prop} {h : Heap} {vs : List V} {xs : List Value} (r : RVs N h vs xs) : vs.length = xs.length := r.ind (P := fun vs xs => vs.length = xs.length) rfl fun _ e => congrArg (· + 1) e
theorem RVs.size {N : Addr → Prop} {h : Heap} {vs : List V} {xs : Array Value} (r : RVs N h vs xs.toList) : vs.length = xs.size := by
  rw [r.length]; exact Array.length_toList
theorem RVs.get {N : Addr → Prop} {h : Heap} {vs : List V} {xs : List Value} (r : RVs N h vs xs) : ∀ (n : Nat) {v : V}, vs[n]? = some v → ∃ x, xs[n]? = some x ∧ RV N h v x :=
  r.ind (P := fun vs xs => ∀ (n : Nat) {v : V}, vs[n]? = some v → ∃ x, xs[n]? = some x ∧ RV N h v x) (fun _ _ e => by cases e) fun a i n v e => by
    cases n with
    | zero => cases e; exact ⟨_, rfl, a⟩
    | succ n => exact i n e
theorem RVs.append {N : Addr → Prop} {h : Heap} {vs ws : List V} {xs ys : List Value} (r : RVs N h vs xs) (b : RVs N h ws ys) : RVs N h (vs ++ ws) (xs ++ ys) :=
  r.ind (P := fun vs xs => RVs N h (vs ++ ws) (xs ++ ys)) b fun a i => .cons a i

inductive RO (hsh : HFn) (N : Addr → Prop) (h : Heap) (a : Addr) : AO → Prop
  | list {xs n vs} : IsL h a xs n → xs.size ≤ sizeLine → RVs N h vs xs.toList → RO hsh N h a (.list vs)
  | inst {c ns xs vs} : NsOf h a ns xs → RVs N h vs xs → RO hsh N h a (.inst c ns vs)

theorem RO.gen {hsh : HFn} {N N' : Addr → Prop} {h h' : Heap} {a : Addr} {o : AO} (hN : ∀ b, N' b → N b ∨ h.get? b = none) (hk : ∀ b o, ¬ N b → h.get? b = some o → h'.get? b = some o)
    (ha : ∀ o, h.get? a = some o → h'.get? a = some o) : RO hsh N h a o → RO hsh N' h' a o
  | .list a1 a5 a4 => .list (ha _ a1) a5 (a4.gen hN hk)
  | .inst a1 a2 => .inst (a1.at ha) (a2.gen hN hk)

noncomputable def NN (H : AH) (Sys : Addr → Prop) : Addr → Prop := fun a => H a ≠ none ∨ Sys a

structure Sim (hsh : HFn) (T : Heap → Prop) (lay : Nat → Option Place) (Sys : Addr → Prop) (base : Heap) (st : St) (h : Heap) : Prop where
  keep : HK base h
  top : T base
  vals : ∀ i v p, st.ρ[i]? = some (some v) → lay i = some p → ∃ val, p.has h val ∧ RV (NN st.H Sys) h v val
  ok : ∀ i p, lay i = some p → p.ok h
  inj : ∀ i j p, lay i = some p → lay j = some p → i = j
  sys : ∀ i p, lay i = some p → Sys p.addr ∧ base.get? p.addr = none ∧ st.H p.addr = none
  objs : ∀ a o, st.H a = some o → RO hsh (NN st.H Sys) h a o
  own : ∀ a, st.H a ≠ none → st.B a = none → base.get? a = none
  live : ∀ a, Sys a → h.get? a ≠ none
  ent : ∀ a, st.B a ≠ none → ∃ o, base.get? a = some o

theorem Sim.keeps {hsh : HFn} {T : Heap → Prop} {lay : Nat → Option Place} {Sys : Addr → Prop} {base : Heap} {st : St} {h h' : Heap} (x : Sim hsh T lay Sys base st h) (k : HK h h') : Sim hsh T lay Sys base st h' where
  keep := x.keep.trans k
  top := x.top
  vals := fun i v p a b => let ⟨val, c, d⟩ := x.vals i v p a b; ⟨val, c.keeps k, d.keeps k⟩
  ok := fun i p a => (x.ok i p a).keeps k
  inj := x.inj
  sys := x.sys
  objs := fun a o e => (x.objs a o e).gen (fun _ q => .inl q) (fun b o _ e => k b o e) (fun o e => k a o e)
  own := x.own
  live := fun a q e => by
    cases e' : h.get? a with
    | none => exact x.live a q e'
    | some o => rw [k a o e'] at e; cases e
  ent := x.ent

theorem RO.exists {hsh : HFn} {N : Addr → Prop} {h : Heap} {a : Addr} {o : AO} (r : RO hsh N h a o) : ∃ ob, h.get? a = some ob := by
  cases r with
  | list a1 _ _ => exact ⟨_, a1⟩
  | inst a1 _ => obtain ⟨_, _, _, o, es, ep, h1, _⟩ := a1; exact ⟨_, h1⟩

theorem Sim.fresh {hsh : HFn} {T : Heap → Prop} {lay : Nat → Option Place} {Sys : Addr → Prop} {base : Heap} {st : St} {h : Heap} (x : Sim hsh T lay Sys base st h) {a : Addr} (e : h.get? a = none) : st.H a = none := by
  cases q : st.H a with
  | none => rfl
  | some o =>
    obtain ⟨ob, e'⟩ := (x.objs a o q).exists
    rw [e] at e'; cases e'


theorem IsT.isTuple {h : Heap} {a : Addr} {xs : Array Value} {n : Nat} (x : IsT h a xs n) : h.IsTuple a xs := ⟨_, x, rfl, n, rfl⟩
theorem IsT.isTup {h : Heap} {a : Addr} {xs : Array Value} {n : Nat} (x : IsT h a xs n) : PyProof.Rows.IsTup h a xs := ⟨_, x, rfl, n, rfl⟩

/-- a row of the frame's or a frozen one -/
theorem seqL_at {hsh : HFn} {H : AH} {Sys : Addr → Prop} {h : Heap} (HO : ∀ a o, H a = some o → RO hsh (NN H Sys) h a o) {v : V} {x : Value} {vs : List V} (r : RV (NN H Sys) h v x) (e : seqL H v = some vs) :
    ∃ a xs n, x = .ref a ∧ IsL h a xs n ∧ xs.size ≤ sizeLine ∧ RVs (NN H Sys) h vs xs.toList := by
  cases r with
  | lst a1 a2 a3 a4 => simp only [sq_none, sq_bool, sq_int, sq_str, sq_tup, sq_lst, sq_ref, sq_inst, sq_iref, Option.some.injEq] at e; subst e; exact ⟨_, _, _, rfl, a2, a3, a4⟩
  | ref a =>
    simp only [sq_none, sq_bool, sq_int, sq_str, sq_tup, sq_lst, sq_ref, sq_inst, sq_iref] at e
    split at e
    · rename_i ws hw
      cases e
      cases HO a _ hw with
      | list b1 b2 b3 => exact ⟨_, _, _, rfl, b1, b2, b3⟩
    · cases e
  | _ => simp [sq_none, sq_bool, sq_int, sq_str, sq_tup, sq_lst, sq_ref, sq_inst, sq_iref] at e

end Mine
end

section
set_option autoImplicit false
namespace Mine
open PySem

/-- how a raise leaves: (this make) never -/
noncomputable def Rz (_s : Shared) (_X : String → Prop) (_e : Value) (_s' : Shared) : Prop := False
theorem Rz.trans {s s₁ s' : Shared} {X : String → Prop} {e : Value} (_k : Kp s s₁) (r : Rz s₁ X e s') : Rz s X e s' := r

structure Rm (d : Nat) (A : Around) : Prop where
  depth : A.depth + d + 150 < recursionLimit
  units : A.units + 20 * d + 200 < cLine
/-- a thing just made: it stood nowhere ahead, and nothing in it leads back to it -/
noncomputable abbrev Frsh (N : Addr → Prop) (s s' : Shared) (v : V) (val : Value) : Prop :=
  ∀ a, val = .ref a → s.heap.get? a = none ∧ ∀ vs, v = .lst vs → ∃ xs n, IsL s'.heap a xs n ∧ xs.size ≤ sizeLine ∧ RVs (fun b => N b ∨ b = a) s'.heap vs xs.toList
theorem Frsh.before {N : Addr → Prop} {s₀ s s' : Shared} {v : V} {val : Value} (x : Frsh N s s' v val) (k : Kp s₀ s) : Frsh N s₀ s' v val := fun a e => by
  obtain ⟨h1, h2⟩ := x a e
  refine ⟨?_, h2⟩
  cases q : s₀.heap.get? a with
  | none => rfl
  | some o => rw [k.hk a o q] at h1; cases h1
theorem Frsh.mk {N : Addr → Prop} {s s' : Shared} {vs : List V} {xs : Array Value} {n : Nat} {a : Addr} (hf : s.heap.get? a = none) (r : RVs N s.heap vs xs.toList) (k : HK s.heap s'.heap) (hl : IsL s'.heap a xs n) (hz : xs.size ≤ sizeLine) : Frsh N s s' (.lst vs) (.ref a) := by
  rintro a' ⟨⟩
  refine ⟨hf, ?_⟩
  rintro vs' ⟨⟩
  refine ⟨xs, n, hl, hz, r.gen (fun b q => ?_) fun b o _ e => k b o e⟩
  rcases q with q | rfl
  · exact .inl q
  · exact .inr hf

/-- a tree, read as a transformer of wishes about values -/
noncomputable def Snd (prog : Program) (w : World) (A : Around) (N : Addr → Prop) (s : Shared) (f : Bool) (t : Sem Value) (W : (V → Prop) → (String → Prop) → Prop) : Prop :=
  ∀ (Q : V → Prop) (X : String → Prop) (K : Value → Shared → Prop) (E : Value → Shared → Prop), W Q X →
    (∀ v val s', Q v → RV N s'.heap v val → Kp s s' → (f = true → Frsh N s s' v val) → K val s') →
    (∀ e s', Rz s X e s' → E e s') → wpAny (model prog w) A t K E s

structure EnvOk (env : Env) (names : List (Str × NameKind)) (σ : List (Str × Nat)) (lay : Nat → Option Place) : Prop where
  kind : env.scope.kind = .function
  glob : env.globals = mainGlobals
  blt : env.builtins = builtinsNs
  gl : ∀ x, names.lookup x = some .globalImplicit → env.kindOf x = some .globalImplicit
  lc : ∀ x, names.lookup x = some .local → env.kindOf x = some .local
  ce : ∀ x, names.lookup x = some .cell → env.kindOf x = some .cell
  fr : ∀ x, names.lookup x = some .free → env.kindOf x = some .cell ∨ env.kindOf x = some .free
  vars : ∀ x i, σ.lookup x = some i → ∃ p, lay i = some p ∧ ((env.kindOf x = some .local ∧ p = .loc env.locals x) ∨
    ((env.kindOf x = some .cell ∨ env.kindOf x = some .free) ∧ (x == ("__classdict__" : Str)) = false ∧ ∃ c, env.cells.lookup x = some c ∧ p = .cell c))

section
variable {prog : Program} {w : World} {A : Around} {N : Addr → Prop} {s : Shared} {env : Env}

theorem snd_none {k : Nat} {pos : Pos} : Snd prog w A N s false (eval (.Constant .none k pos) env) (fun Q _ => Q .none) :=
  fun _ _ _ _ hW hK _ => wpAny_Constant_none (hK _ _ _ hW .none (Kp.refl s) nofun)
theorem snd_bool {b : Bool} {k : Nat} {pos : Pos} : Snd prog w A N s false (eval (.Constant (.bool b) k pos) env) (fun Q _ => Q (.bool b)) :=
  fun _ _ _ _ hW hK _ => wpAny_Constant_bool (hK _ _ _ hW (.bool b) (Kp.refl s) nofun)
theorem snd_int {i : Int} {k : Nat} {pos : Pos} : Snd prog w A N s false (eval (.Constant (.int i) k pos) env) (fun Q _ => Q (.int i)) :=
  fun _ _ _ _ hW hK _ => wpAny_Constant_int (hK _ _ _ hW (.int i _) (Kp.tok s _) nofun)
theorem snd_str {x : Str} {k : Nat} {pos : Pos} (hx : SOk x) : Snd prog w A N s false (eval (.Constant (.str x) k pos) env) (fun Q _ => Q (.str x)) :=
  fun _ _ _ _ hW hK _ => wpAny_Constant_str (hK _ _ _ hW (.str x _ hx) (Kp.tok s _) nofun)
end

/-- load a name -/
theorem ld_var {M : Model} {A : Around} {E : Value → Shared → Prop} {hsh : HFn} {T : Heap → Prop} {lay : Nat → Option Place} {Sys : Addr → Prop} {base : Heap} {st : St} {s : Shared} {env : Env} {names : List (Str × NameKind)} {σ : List (Str × Nat)}
    (O : EnvOk env names σ lay) (S : Sim hsh T lay Sys base st s.heap) {x : Str} {i : Nat} {v : V} {Q : Value → Shared → Prop} (hx : σ.lookup x = some i) (hv : st.ρ[i]? = some (some v))
    (h : ∀ val, RV (NN st.H Sys) s.heap v val → Q val s) : wpAny M A (loadName env x) Q E s := by
  obtain ⟨p, hp, hc⟩ := O.vars x i hx
  obtain ⟨val, hh, hr⟩ := S.vals i v p hv hp
  rcases hc with ⟨hk, rfl⟩ | ⟨hk, hd, c, hc, rfl⟩
  · obtain ⟨m, hm, e⟩ := hh
    exact wpAny_loadName_local O.kind hk hm e (h val hr)
  · rcases hk with hk | hk
    · exact wpAny_loadName_cell O.kind hk hc hh (h val hr)
    · exact wpAny_loadName_free O.kind hk hc hh (h val hr) hd

/-- store a name -/
theorem st_var {M : Model} {A : Around} {E : Value → Shared → Prop} {hsh : HFn} {T : Heap → Prop} {lay : Nat → Option Place} {Sys : Addr → Prop} {base : Heap} {st : St} {s : Shared} {env : Env} {names : List (Str × NameKind)} {σ : List (Str × Nat)}
    (O : EnvOk env names σ lay) (S : Sim hsh T lay Sys base st s.heap) {x : Str} {i : Nat} {v : V} {val : Value} {Q : Unit → Shared → Prop} (hx : σ.lookup x = some i) (hi : i < st.ρ.length)
    (hfree : env.kindOf x ≠ some .free) (hr : RV (NN st.H Sys) s.heap v val)
    (h : ∀ h' t p, lay i = some p → Heap.SameBut p.addr s.heap h' → Sim hsh T lay Sys base { st with ρ := st.ρ.set i (some v) } h' → Q () { s with heap := h', toks := t }) :
    wpAny M A (storeName env x val) Q E s := by
  obtain ⟨p, hp, hc⟩ := O.vars x i hx
  have hN : NN st.H Sys p.addr := .inr (S.sys i p hp).1
  -- what the store leaves
  have fin : ∀ h', Heap.SameBut p.addr s.heap h' → p.has h' val → p.ok h' → (∀ j q, lay j = some q → j ≠ i → (∀ u, q.has s.heap u → q.has h' u) ∧ (q.ok s.heap → q.ok h')) →
      Sim hsh T lay Sys base { st with ρ := st.ρ.set i (some v) } h' := by
    intro h' hs hh hok hoth
    have hk : ∀ b o, ¬ NN st.H Sys b → s.heap.get? b = some o → h'.get? b = some o := fun b o nb e => (hs.2 b (fun q => nb (q ▸ hN))).trans e
    refine ⟨fun b o e => (hs.2 b (fun q => by rw [q, (S.sys i p hp).2.1] at e; cases e)).trans (S.keep b o e), S.top, fun j u q hj hq => ?_, fun j q hq => ?_, S.inj, S.sys, fun a o e => ?_, S.own, fun a q e => ?_, S.ent⟩
    · by_cases hji : j = i
      · subst hji
        rw [List.getElem?_set_self hi] at hj
        cases hj
        rw [hp] at hq; cases hq
        exact ⟨val, hh, hr.gen (fun _ q => .inl q) hk⟩
      · rw [List.getElem?_set_ne (Ne.symm hji)] at hj
        obtain ⟨u', a1, a2⟩ := S.vals j u q hj hq
        exact ⟨u', (hoth j q hq hji).1 u' a1, a2.gen (fun _ q => .inl q) hk⟩
    · by_cases hji : j = i
      · subst hji; rw [hp] at hq; cases hq; exact hok
      · exact (hoth j q hq hji).2 (S.ok j q hq)
    · have e0 : st.H a = some o := e
      refine (S.objs a o e0).gen (fun _ q => .inl q) hk fun ob e' => (hs.2 a fun q => ?_).trans e'
      rw [q, (S.sys i p hp).2.2] at e0; cases e0
    · by_cases ha : a = p.addr
      · subst ha
        cases p with
        | loc L x => obtain ⟨m, o, es, ep, e', _⟩ := hok; rw [show (Place.loc L x).addr = L from rfl, e'] at e; cases e
        | cell c => obtain ⟨v, o, e', _⟩ := hok; rw [show (Place.cell c).addr = c from rfl, e'] at e; cases e
      · rw [hs.2 a ha] at e; exact S.live a q e
  rcases hc with ⟨hk, rfl⟩ | ⟨hk, hd, c, hc, rfl⟩
  · obtain ⟨m, hm⟩ := S.ok i _ hp
    refine wpAny_storeName_local hk hm (fun h' hn hs => h h' _ _ hp hs (fin h' hs ⟨_, hn, by simp⟩ ⟨_, hn⟩ fun j q hq hji => ?_)) (by rw [O.kind]; rfl)
    cases q with
    | loc L y =>
      by_cases hL : L = env.locals
      · subst hL
        have hne : y ≠ x := fun e => hji (S.inj j i _ hq (e ▸ hp))
        refine ⟨fun u hu => ?_, fun _ => ⟨_, hn⟩⟩
        obtain ⟨m', hm', e'⟩ := hu
        have : m' = m := by
          obtain ⟨o1, es1, ep1, g1, d1, _, f1⟩ := hm'
          obtain ⟨o2, es2, ep2, g2, d2, _, f2⟩ := hm
          rw [g1] at g2; cases g2
          rw [d1] at d2; cases d2
          funext z; rw [← f1, ← f2]
        subst this
        exact ⟨_, hn, by simp [hne, e']⟩
      · exact ⟨fun u hu => let ⟨m', a, b⟩ := hu; ⟨m', a.sameBut hs hL, b⟩, fun hu => let ⟨m', a⟩ := hu; ⟨m', a.sameBut hs hL⟩⟩
    | cell c =>
      have hne : ∀ v, s.heap.IsCell c v → c ≠ env.locals := by
        rintro v ⟨o, e, d⟩ rfl
        obtain ⟨o2, es2, ep2, g2, d2, _⟩ := hm
        rw [e] at g2; cases g2
        rw [d] at d2; cases d2
      exact ⟨fun u hu => Heap.IsCell.sameBut hu hs (hne _ hu), fun hu => let ⟨v', a⟩ := hu; ⟨v', a.sameBut hs (hne _ a)⟩⟩
  · have hk : env.kindOf x = some .cell := hk.resolve_right hfree
    obtain ⟨v0, hv0⟩ := S.ok i _ hp
    refine wpAny_storeName_cell O.kind hk hc hv0 fun h' hn hs => h h' _ _ hp hs (fin h' hs hn ⟨_, hn⟩ fun j q hq hji => ?_)
    cases q with
    | loc L y =>
      have hne : ∀ m, s.heap.Ns L m → L ≠ c := by
        rintro m ⟨o2, es2, ep2, g2, d2, _⟩ rfl
        obtain ⟨o, e, d⟩ := hv0
        rw [e] at g2; cases g2
        rw [d] at d2; cases d2
      exact ⟨fun u hu => let ⟨m', a, b⟩ := hu; ⟨m', a.sameBut hs (hne _ a), b⟩, fun hu => let ⟨m', a⟩ := hu; ⟨m', a.sameBut hs (hne _ a)⟩⟩
    | cell c' =>
      have hne : c' ≠ c := fun e => hji (S.inj j i _ hq (e ▸ hp))
      exact ⟨fun u hu => Heap.IsCell.sameBut hu hs hne, fun hu => let ⟨v', a⟩ := hu; ⟨v', a.sameBut hs hne⟩⟩

end Mine
end

section
set_option autoImplicit false
namespace Mine
open PySem

structure RmF (d : Nat) (A : Around) : Prop extends Rm d A where
  hnd : A.handled = none
  head : ∃ env l, A.frames = some (env :: l) ∧ env.scope.isGenerator = false ∧ env.scope.isCoroutine = false ∧ env.builtins = builtinsNs ∧ env.globals = mainGlobals

/-- where a call may be made -/
structure RmC (d : Nat) (A : Around) : Prop extends Rm d A where
  hnd : A.handled = none
  fr : ∃ l, A.frames = some l
theorem RmF.toC {d : Nat} {A : Around} (x : RmF d A) : RmC d A := ⟨x.toRm, x.hnd, let ⟨e, l, h, _⟩ := x.head; ⟨e :: l, h⟩⟩

/-- what every heap of the run bears -/
structure TG (prog : Program) (mg mb : Str → Option Value) (h : Heap) : Prop where
  g : h.Ns mainGlobals mg
  b : h.Ns builtinsNs mb
  nolimit : h.NoLimit
  noseer : h.NoSeer
  tree : prog.given.tree = none
theorem TG.keeps {prog : Program} {mg mb : Str → Option Value} {h h' : Heap} (x : TG prog mg mb h) (k : HK h h') : TG prog mg mb h' :=
  ⟨x.g.keeps k, x.b.keeps k, x.nolimit.keeps k, x.noseer.keeps k, x.tree⟩

theorem pylong {prog : Program} {w : World} {mg mb : Str → Option Value} {A : Around} {s : Shared} {d : Nat} (R : RmF d A) (T : TG prog mg mb s.heap) : PylongRoom (model prog w) A s := by
  obtain ⟨env, l, h1, h2, h3, h4, h5⟩ := R.head
  exact PylongRoom.of T.nolimit (by have := R.depth; show A.depth + 100 < recursionLimit; omega) (SeerAt.of T.noseer T.tree h1 h2 h3 h4 h5)

noncomputable abbrev HO (hsh : HFn) (H : AH) (Sys : Addr → Prop) (h : Heap) : Prop := ∀ a o, H a = some o → RO hsh (NN H Sys) h a o

theorem fresh_size (h : Heap) : h.get? h.objs.size = none := Heap.get?_none_of_le (Nat.le_refl _)
theorem new_lst {hsh : HFn} {H : AH} {Sys : Addr → Prop} {h : Heap} {vs : List V} {xs : Array Value} (ho : HO hsh H Sys h) (hsys : ∀ a, Sys a → h.get? a ≠ none) (r : RVs (NN H Sys) h vs xs.toList) (hz : xs.size ≤ sizeLine) :
    RV (NN H Sys) (h.push { cls := .type "list", data := .seq xs }) (.lst vs) (.ref h.objs.size) := by
  refine .lst (fun q => ?_) (IsL.new h xs) hz (r.keeps (HK.push h _))
  rcases q with q | q
  · cases e : H h.objs.size with
    | none => exact q e
    | some o =>
      obtain ⟨ob, e'⟩ := (ho _ _ e).exists
      rw [fresh_size] at e'; cases e'
  · exact hsys _ q (fresh_size h)
theorem new_tup {hsh : HFn} {H : AH} {Sys : Addr → Prop} {h : Heap} {vs : List V} {xs : Array Value} (ho : HO hsh H Sys h) (hsys : ∀ a, Sys a → h.get? a ≠ none) (r : RVs (NN H Sys) h vs xs.toList) (hz : xs.size ≤ sizeLine) :
    RV (NN H Sys) (h.push { cls := .type "tuple", data := .seq xs }) (.tup vs) (.ref h.objs.size) := by
  refine .tup (fun q => ?_) (IsT.new h xs) hz (r.keeps (HK.push h _))
  rcases q with q | q
  · cases e : H h.objs.size with
    | none => exact q e
    | some o =>
      obtain ⟨ob, e'⟩ := (ho _ _ e).exists
      rw [fresh_size] at e'; cases e'
  · exact hsys _ q (fresh_size h)

section
variable {hsh : HFn} {prog : Program} {w : World} {A : Around} {E : Value → Shared → Prop} {s : Shared} {H : AH} {Sys : Addr → Prop} {mg mb : Str → Option Value} {d : Nat}

theorem RVs.repL {N : Addr → Prop} {h : Heap} {vs : List V} {xs : List Value} (r : RVs N h vs xs) : ∀ n : Nat, RVs N h (repL n vs) (repL n xs)
  | 0 => .nil
  | n + 1 => by
    have := r.append (r.repL n)
    simpa [Mine.repL, List.replicate_succ] using this
theorem repL_length {α : Type} (n : Nat) (xs : List α) : (repL n xs).length = n * xs.length := by simp [repL]

theorem repL_nil {α : Type} (n : Nat) : repL n ([] : List α) = [] := by simp [repL]
theorem foldl_rep {α : Type} (xs : Array α) : ∀ (n : Nat) (acc : Array α), ((List.replicate n xs).foldl (fun x1 x2 => x1 ++ x2) acc).toList = acc.toList ++ repL n xs.toList
  | 0, acc => by simp [repL]
  | n + 1, acc => by
    rw [List.replicate_succ, List.foldl_cons, foldl_rep xs n]
    simp [repL, List.replicate_succ]
theorem mul_row {l : Addr} {items : Array Value} {k : Nat} {x : Int} {u : Tok} {Q : Value → Shared → Prop} (hl : IsL s.heap l items k) (hlo : -(2 ^ 62 : Int) ≤ x) (hhi : x < 2 ^ 62) (hsz : items.size * x.toNat ≤ sizeLine)
    (h : ∀ r : Array Value, r.toList = repL x.toNat items.toList → Q (.ref s.heap.objs.size) { s with heap := s.heap.push { cls := .type "list", data := .seq r } }) :
    wpAny (model prog w) A (binaryOp .Mult (.ref l) (.int x u)) Q E s := by
  have hz : items.size * x.toNat ≤ 16777216 := hsz
  refine wpAny_binaryOp_repeat_ref (T := "list") (U := "int") (by decide) ⟨_, hl, rfl⟩ (fun s' => typeIs_int s' x u) noFill_list_mul F.fills_int_mul F.slot_int_rmul repeat_list F.slot_int_index.lookup ?_
  refine call_meets F.slot_int_rmul (typeIs_int s x u) F.entry_int_rmul (F.args_int_rmul_2 _ _) (int___rmul___int_list x u l items k) ⟨hl, rfl, ⟨_, hl, rfl⟩, ?_⟩
  refine call_meets F.slot_list_mul ⟨_, hl, rfl⟩ F.entry_list_mul (F.args_list_mul_2 _ _) (AutoListH.list___mul___list_int_3 l items k x u (by simp [Builtin.List.listFitsIndex]; omega) (by omega) (by simp [Builtin.List.listTooLong, sizeLine]; omega)) ⟨hl, ?_⟩
  refine h _ ?_
  rw [foldl_rep]
  by_cases hi : items.isEmpty = true
  · have e : items = #[] := by simpa using hi
    subst e; simp [repL]
  · rw [if_neg hi]; simp

theorem txt_mul {x : Str} {n : Int} (h : 0 ≤ n) : Txt.mul x n = ⟨(repL n.toNat x.cps.toList).toArray⟩ := by
  unfold Txt.mul
  by_cases h1 : n < 1
  · rw [if_pos h1]
    have e : n = 0 := by omega
    subst e; rfl
  · rw [if_neg h1]
    split
    · rename_i h2
      simp only [Bool.or_eq_true, beq_iff_eq] at h2
      rcases h2 with h2 | h2
      · subst h2
        apply Str.ext'
        simp [repL]
      · have e : x.cps = #[] := Array.eq_empty_of_size_eq_zero h2
        apply Str.ext'
        simp [e, repL_nil]
    · congr 1
      apply Array.toList_inj.mp
      rw [foldl_rep]; simp
theorem rep_mem {α : Type} {n : Nat} {xs : List α} {c : α} (h : c ∈ repL n xs) : c ∈ xs := by
  unfold repL at h
  obtain ⟨l, hl, hc⟩ := List.mem_flatten.mp h
  rw [List.eq_of_mem_replicate hl] at hc; exact hc
theorem intP_inv {v : V} {P : Int → Prop} (h : intP v P) : ∃ i, v = .int i ∧ P i := by
  cases v <;> first | exact ⟨_, rfl, h⟩ | exact False.elim h
theorem strP_inv {v : V} {P : Str → Prop} (h : strP v P) : ∃ i, v = .str i ∧ P i := by
  cases v <;> first | exact ⟨_, rfl, h⟩ | exact False.elim h
theorem noneP_inv {v : V} {P : Prop} (h : noneP v P) : v = .none ∧ P := by
  cases v <;> first | exact ⟨rfl, h⟩ | exact False.elim h
theorem seqP_inv {H : AH} {v : V} {P : List V → Prop} (h : seqP H v P) : ∃ x, seqL H v = some x ∧ P x := by
  unfold seqP at h
  cases e : seqL H v with
  | none => rw [e] at h; exact False.elim h
  | some x => rw [e] at h; exact ⟨_, rfl, h⟩

theorem prim_bin {op : Bop} {u v : V} {a b : Value} {Q : V → Prop} {K : Value → Shared → Prop} (R : RmF d A) (T : TG prog mg mb s.heap) (ho : HO hsh H Sys s.heap) (hsys : ∀ a, Sys a → s.heap.get? a ≠ none)
    (hW : binV H op u v Q) (ra : RV (NN H Sys) s.heap u a) (rb : RV (NN H Sys) s.heap v b)
    (hK : ∀ r val s', Q r → RV (NN H Sys) s'.heap r val → Kp s s' → Frsh (NN H Sys) s s' r val → K val s') :
    wpAny (model prog w) A (binaryOp (opOf op) a b) K E s := by
  cases op with
  | add =>
    have seq : ∀ {u : V} {a : Value}, RV (NN H Sys) s.heap u a → (seqP H u fun x => seqP H v fun y => x.length + y.length ≤ sizeLine ∧ Q (.lst (x ++ y))) → wpAny (model prog w) A (binaryOp .Add a b) K E s := by
      intro u a ra hW
      obtain ⟨x, e1, hW⟩ := seqP_inv hW
      obtain ⟨y, e2, hW⟩ := seqP_inv hW
      obtain ⟨a1, xs, n, rfl, hl, hz, rx⟩ := seqL_at ho ra e1
      obtain ⟨b1, ys, m, rfl, hl', hz', ry⟩ := seqL_at ho rb e2
      have hlen : xs.size + ys.size ≤ sizeLine := by
        have h1 := rx.length
        have h2 := ry.length
        simp only [Array.length_toList] at h1 h2
        rw [← h1, ← h2]; exact hW.1
      have rr : RVs (NN H Sys) s.heap (x ++ y) (xs ++ ys).toList := by rw [Array.toList_append]; exact rx.append ry
      have hzz : (xs ++ ys).size ≤ sizeLine := by rw [Array.size_append]; exact hlen
      exact P.add_list hl hl' (hK _ _ _ hW.2 (new_lst ho hsys rr hzz) (Kp.ofH (HK.push _ _)) (Frsh.mk (s := s) (s' := { s with heap := s.heap.push { cls := .type "list", data := .seq (xs ++ ys) } }) (fresh_size _) rr (HK.push _ _) (IsL.new _ _) hzz)) hlen
    cases u with
    | int i =>
      obtain ⟨j, rfl, hW⟩ := intP_inv hW
      cases ra; cases rb
      exact PyProof.Rows.add_int (hK _ _ _ hW (.int _ _) (Kp.tok s _) nofun)
    | str x =>
      obtain ⟨y, rfl, hW⟩ := strP_inv hW
      cases ra with
      | str _ _ o1 => cases rb with
        | str _ _ o2 => exact PyProof.Rows.add_str (fun t' tk => hK _ _ _ hW.2 (.str _ _ (o1.append o2 hW.1)) (Kp.tok s _) nofun) hW.1
    | _ => exact seq ra hW
  | sub =>
    obtain ⟨i, rfl, hW⟩ := intP_inv hW
    obtain ⟨j, rfl, hW⟩ := intP_inv hW
    cases ra; cases rb
    exact PyProof.Rows.sub_int (hK _ _ _ hW (.int _ _) (Kp.tok s _) nofun)
  | mul =>
    cases u with
    | int i =>
      obtain ⟨j, rfl, hW⟩ := intP_inv hW
      cases ra; cases rb
      refine PyProof.Rows.mul_int (hK _ _ _ hW.2 (.int _ _) (Kp.tok s _) nofun) ?_
      rcases hW.1 with h | h
      · exact IntMulOk.of_left (intBits_le_64 (by omega) (by omega))
      · exact IntMulOk.of_right (intBits_le_64 (by omega) (by omega))
    | lst vs =>
      obtain ⟨n, rfl, hW⟩ := intP_inv hW
      cases ra with
      | lst na hl hz rx =>
        rename_i a1 xs k
        cases rb with
        | int _ t =>
          have hlen : xs.size * n.toNat ≤ sizeLine := by
            have h1 := rx.length
            simp only [Array.length_toList] at h1
            rw [← h1]; exact hW.2.2.1
          refine mul_row hl hW.1 hW.2.1 hlen fun r hr => ?_
          have rr : RVs (NN H Sys) s.heap (repL n.toNat vs) r.toList := by rw [hr]; exact rx.repL _
          have hrs : r.size ≤ sizeLine := by
            rw [← Array.length_toList, hr, repL_length, Array.length_toList, Nat.mul_comm]; exact hlen
          exact hK _ _ _ hW.2.2.2 (new_lst ho hsys rr hrs) (Kp.ofH (HK.push _ _)) (Frsh.mk (s := s) (s' := { s with heap := s.heap.push { cls := .type "list", data := .seq r } }) (fresh_size _) rr (HK.push _ _) (IsL.new _ _) hrs)
    | str x =>
      obtain ⟨n, rfl, h0, h1, h2, hq⟩ := intP_inv hW
      cases ra with
      | str _ _ ox =>
        cases rb with
        | int _ t =>
          have hs' : sizeLine = 16777216 := rfl
          have hx := ox.1
          have hsz : x.length * n.toNat ≤ 16777216 := h2
          refine SB.mul ⟨by simp only [Bool.or_eq_false_iff, decide_eq_false_iff_not]; omega, fun h3 _ => ?_, fun h3 _ => ?_⟩ fun t' k => ?_
          · intro h4
            have h5 : (x.length : Int) * n ≤ 16777216 := by
              have : ((x.length * n.toNat : Nat) : Int) ≤ ((16777216 : Nat) : Int) := Int.ofNat_le.mpr hsz
              rwa [Int.natCast_mul, Int.toNat_of_nonneg h0] at this
            have h6 : (2 ^ 63 - 1) / n * n ≤ (2 ^ 63 - 1 : Int) := Int.ediv_mul_le _ (by omega)
            have h7 : (2 ^ 63 - 1 : Int) < ((2 ^ 63 - 1) / n + 1) * n := Int.lt_ediv_add_one_mul_self _ (by omega)
            have h8 : ((2 ^ 63 - 1) / n + 1) * n ≤ (x.length : Int) * n := Int.mul_le_mul_of_nonneg_right (by omega) h0
            omega
          · unfold Builtin.Str.tooLong
            exact decide_eq_false (by omega)
          · rw [txt_mul h0]
            refine hK _ _ _ hq (.str _ _ ⟨?_, fun c hc => ?_⟩) (Kp.tok s _) nofun
            · show (repL n.toNat x.cps.toList).toArray.size ≤ sizeLine
              rw [List.size_toArray, repL_length, Array.length_toList, Nat.mul_comm]; exact h2
            · exact ox.2 c (rep_mem (by simpa using hc))
    | _ => exact False.elim hW
  | fdiv =>
    obtain ⟨i, rfl, hW⟩ := intP_inv hW
    obtain ⟨j, rfl, hW⟩ := intP_inv hW
    cases ra; cases rb
    exact PyProof.Rows.floordiv_int hW.1 (hK _ _ _ hW.2 (.int _ _) (Kp.tok s _) nofun) (.inr (pylong R T))
  | mod =>
    obtain ⟨i, rfl, hW⟩ := intP_inv hW
    obtain ⟨j, rfl, hW⟩ := intP_inv hW
    cases ra; cases rb
    exact PyProof.Rows.mod_int hW.1 (hK _ _ _ hW.2 (.int _ _) (Kp.tok s _) nofun)
  | pow => exact False.elim hW
end

end Mine
end

section
set_option autoImplicit false
namespace Mine
open PySem

structure PG where
  prog : Program
  w : World
  mg : Str → Option Value
  mb : Str → Option Value
  tbl : Tbl
  gtab : List (String × V)
  ctab : Clss
/-- the hash of a key that is a tuple of numbers and texts -/
noncomputable def atHash (w : World) : At → Int
  | .i n => hashInt n
  | .s x => hashStr w x
noncomputable def wHash (w : World) : HFn := fun ks => reduceHash (Builtin.Tuple.tupleHashOf (ks.map (atHash w)))
noncomputable def PG.hf (G : PG) : HFn := wHash G.w

noncomputable def bnames : List String := ["len", "isinstance", "int", "bool", "str", "tuple", "list", "sum", "max", "min", "reversed", "range", "enumerate", "zip"]
noncomputable def btypes : List String := ["int", "bool", "str", "tuple", "list", "reversed", "range", "enumerate", "zip"]
noncomputable def bval (n : String) : Value := if n ∈ btypes then .type n else .builtin n

/-- a row of the table of classes -/
structure CRow (h : Heap) (C N0 : Addr) (mN : Str → Option Value) (n : Nat) (fs : List (String × Ini)) : Prop where
  cls : PyProof.Rows.ClsAt h C N0 mN
  ga : mN "__getattribute__" = none
  sa : mN "__setattr__" = none
  qt : ∀ f ∈ fs, mN (Str.ofString f.1) = none ∧ typeLookup (.type "object") (Str.ofString f.1) = pure none
  ini : ∃ fI oI pm cdv doc qual params body scope, mN "__init__" = some (.ref fI) ∧ h.get? fI = some oI ∧ oI.cls = .type "function" ∧ oI.data = .func (PyProof.Rows.methDef "__init__" qual params body scope pm cdv doc) ∧ h.CodeRec cdv qual ∧ chkIni n fs params body scope = true
theorem CRow.keeps {h h' : Heap} {C N0 : Addr} {mN : Str → Option Value} {n : Nat} {fs : List (String × Ini)} (x : CRow h C N0 mN n fs) (k : HK h h') : CRow h' C N0 mN n fs := by
  obtain ⟨fI, oI, pm, cdv, doc, qual, params, body, scope, h1, h2, h3, h4, h5, h6⟩ := x.ini
  exact ⟨x.cls.keeps k, x.ga, x.sa, x.qt, fI, oI, pm, cdv, doc, qual, params, body, scope, h1, k _ _ h2, h3, h4, h5.keeps k, h6⟩
structure TT (G : PG) (h : Heap) : Prop extends TG G.prog G.mg G.mb h where
  bl : ∀ n ∈ bnames, G.mg (Str.ofString n) = none ∧ G.mb (Str.ofString n) = some (bval n)
  fn : ∀ f fn, G.tbl.lookup f = some fn → ∃ (dr : DefRec) (a : Addr) (o : Obj) (pm code doc : Value), G.mg (Str.ofString f) = some (.ref a) ∧ h.get? a = some o ∧
    o.data = .func (Calls.docDef dr.name dr.params dr.body dr.scope pm code doc) ∧ h.CodeRec code dr.name ∧ chkFn (G.tbl.map (·.1)) fn dr = true
  gl : ∀ x v, G.gtab.lookup x = some v → (∃ i t, v = .int i ∧ G.mg (Str.ofString x) = some (.int i t)) ∨ (∃ u t, v = .str u ∧ SOk u ∧ G.mg (Str.ofString x) = some (.str u t))
  cl : ∀ r ∈ G.ctab, G.mg (Str.ofString r.1) = some (.ref r.2.1) ∧ ∃ N0 mN, CRow h r.2.1 N0 mN r.2.2.1 r.2.2.2
theorem TT.keeps {G : PG} {h h' : Heap} (x : TT G h) (k : HK h h') : TT G h' :=
  ⟨x.toTG.keeps k, x.bl, fun f fn e => let ⟨dr, a, o, pm, code, doc, h1, h2, h3, h4, h5⟩ := x.fn f fn e; ⟨dr, a, o, pm, code, doc, h1, k _ _ h2, h3, h4.keeps k, h5⟩, x.gl
  , fun r hr => let ⟨h1, N0, mN, c⟩ := x.cl r hr; ⟨h1, N0, mN, c.keeps k⟩
  ⟩

noncomputable def PG.cx (G : PG) (d : Nat) : Cx := cxN G.tbl G.gtab G.ctab d

/-- all that a frame's expressions are read against -/
structure Fx (G : PG) (d : Nat) (c : Sc) (A : Around) (env : Env) (lay : Nat → Option Place) (Sys : Addr → Prop) (base : Heap) (st : St) (s : Shared) : Prop where
  rm : RmF d A
  eo : EnvOk env c.names c.σ lay
  us : ∀ i p, lay i = some p → i < c.used
  sim : Sim G.hf (TT G) lay Sys base st s.heap
theorem Fx.keeps {G : PG} {d : Nat} {c : Sc} {A : Around} {env : Env} {lay : Nat → Option Place} {Sys : Addr → Prop} {base : Heap} {st : St} {s s' : Shared} (x : Fx G d c A env lay Sys base st s) (k : Kp s s') :
    Fx G d c A env lay Sys base st s' := ⟨x.rm, x.eo, x.us, x.sim.keeps k.hk⟩
theorem Fx.top {G : PG} {d : Nat} {c : Sc} {A : Around} {env : Env} {lay : Nat → Option Place} {Sys : Addr → Prop} {base : Heap} {st : St} {s : Shared} (x : Fx G d c A env lay Sys base st s) : TT G s.heap := x.sim.top.keeps x.sim.keep

noncomputable abbrev SE (G : PG) (d : Nat) (c : Sc) (e : E) (x : Expr) : Prop :=
  ∀ {A : Around} {env : Env} {lay : Nat → Option Place} {Sys : Addr → Prop} {base : Heap} {st : St} {s : Shared}, Fx G d c A env lay Sys base st s →
    Snd G.prog G.w A (NN st.H Sys) s (isFresh e) (eval x env) (WE (G.cx d) e st)

theorem Snd.weak {prog : Program} {w : World} {A : Around} {N : Addr → Prop} {s : Shared} {f : Bool} {t : Sem Value} {W : (V → Prop) → (String → Prop) → Prop} (h : Snd prog w A N s f t W) : Snd prog w A N s false t W :=
  fun Q X K E hW hK hX => h Q X K E hW (fun v val s' q r k _ => hK v val s' q r k nofun) hX

theorem fresh_keeps {s s' : Shared} (k : Kp s s') {a : Addr} (e : s'.heap.get? a = none) : s.heap.get? a = none := by
  cases q : s.heap.get? a with
  | none => rfl
  | some o => rw [k.hk a o q] at e; cases e

section
variable {G : PG} {d : Nat} {c : Sc} {A : Around} {env : Env} {lay : Nat → Option Place} {Sys : Addr → Prop} {base : Heap} {st : St} {s : Shared}

theorem isVar_eq {x : Str} {i : Nat} (h : isVar c x i = true) : c.σ.lookup x = some i ∧ (x == ("__debug__" : Str)) = false := by
  simp only [isVar, Bool.and_eq_true, decide_eq_true_eq, Bool.not_eq_true'] at h; exact h
theorem isGlob_eq {x : Str} {n : String} (h : isGlob c x n = true) : x = Str.ofString n ∧ c.names.lookup x = some .globalImplicit ∧ (x == ("__debug__" : Str)) = false := by
  simp only [isGlob, Bool.and_eq_true, decide_eq_true_eq, Bool.not_eq_true'] at h; exact ⟨h.1.1, h.1.2, h.2⟩

theorem ld_glob {M : Model} {E : Value → Shared → Prop} {x : Str} {n : String} {v : Value} {pos : Pos} {Q : Value → Shared → Prop} (F : Fx G d c A env lay Sys base st s) (hg : isGlob c x n = true) (hv : G.mg (Str.ofString n) = some v) (h : Q v s) :
    wpAny M A (eval (.Name x pos) env) Q E s := by
  obtain ⟨rfl, h2, h3⟩ := isGlob_eq hg
  exact Calls.Name_function_global F.eo.kind (F.eo.gl _ h2) (Calls.loadGlobal_global (by rw [F.eo.glob]; exact F.top.g) hv h) h3
theorem ld_bltn {M : Model} {E : Value → Shared → Prop} {x : Str} {n : String} {pos : Pos} {Q : Value → Shared → Prop} (F : Fx G d c A env lay Sys base st s) (hg : isGlob c x n = true) (hn : n ∈ bnames) (h : Q (bval n) s) :
    wpAny M A (eval (.Name x pos) env) Q E s := by
  obtain ⟨rfl, h2, h3⟩ := isGlob_eq hg
  exact Calls.Name_function_global F.eo.kind (F.eo.gl _ h2) (Calls.loadGlobal_builtin (by rw [F.eo.glob]; exact F.top.g) (F.top.bl n hn).1 (by rw [F.eo.blt]; exact F.top.b) (F.top.bl n hn).2 h) h3

theorem se_var {i : Nat} {x : Str} {pos : Pos} (F : Fx G d c A env lay Sys base st s) (hx : isVar c x i = true) : Snd G.prog G.w A (NN st.H Sys) s false (eval (.Name x pos) env) (WE (G.cx d) (.var i) st) := by
  intro Q X K E hW hK hX
  obtain ⟨h1, h2⟩ := isVar_eq hx
  simp only [we_0, we_1, we_2, we_3, we_4, we_5, we_6, we_7, we_8, we_9, we_10, we_11, we_12, we_13, we_14, we_15, we_16, we_17, we_18, we_19, we_20, we_21, we_22, we_23, we_24, we_25, we_26, we_27, we_28, we_29, we_30, we_31, we_32, we_33, we_34, we_35] at hW
  split at hW
  · rename_i v hv
    exact wpAny_Name (ld_var F.eo F.sim h1 hv fun val r => hK v val s hW r (Kp.refl s) nofun) h2
  · exact hW.elim

theorem se_glob {g : String} {x : Str} {pos : Pos} (F : Fx G d c A env lay Sys base st s) (hx : isGlob c x g = true) : Snd G.prog G.w A (NN st.H Sys) s false (eval (.Name x pos) env) (WE (G.cx d) (.glob g) st) := by
  intro Q X K E hW hK hX
  simp only [we_0, we_1, we_2, we_3, we_4, we_5, we_6, we_7, we_8, we_9, we_10, we_11, we_12, we_13, we_14, we_15, we_16, we_17, we_18, we_19, we_20, we_21, we_22, we_23, we_24, we_25, we_26, we_27, we_28, we_29, we_30, we_31, we_32, we_33, we_34, we_35] at hW
  split at hW
  · rename_i v hv
    rcases F.top.gl g v hv with ⟨i, t, rfl, e⟩ | ⟨u, t, rfl, hu, e⟩
    · exact ld_glob F hx e (hK _ _ s hW (.int i t) (Kp.refl s) nofun)
    · exact ld_glob F hx e (hK _ _ s hW (.str u t hu) (Kp.refl s) nofun)
  · exact hW.elim

theorem se_bin {op : Bop} {a b : E} {l r : Expr} {pos : Pos} (F : Fx G d c A env lay Sys base st s) (ha : SE G d c a l) (hb : SE G d c b r) :
    Snd G.prog G.w A (NN st.H Sys) s true (eval (.BinOp l (opOf op) r pos) env) (WE (G.cx d) (.bin op a b) st) := by
  intro Q X K E hW hK hX
  simp only [we_0, we_1, we_2, we_3, we_4, we_5, we_6, we_7, we_8, we_9, we_10, we_11, we_12, we_13, we_14, we_15, we_16, we_17, we_18, we_19, we_20, we_21, we_22, we_23, we_24, we_25, we_26, we_27, we_28, we_29, we_30, we_31, we_32, we_33, we_34, we_35] at hW
  refine wpAny_BinOp ((ha F).weak _ X _ E hW (fun u va s₁ h₁ r₁ k₁ _ => ?_) hX)
  have F₁ := F.keeps k₁
  refine (hb F₁).weak _ X _ E h₁ (fun v vb s₂ h₂ r₂ k₂ _ => ?_) (fun e s' q => hX e s' (Rz.trans k₁ q))
  have F₂ := F₁.keeps k₂
  exact prim_bin F₂.rm F₂.top.toTG F₂.sim.objs F₂.sim.live h₂ (r₁.keeps k₂.hk) r₂ fun r val s' q rv k f => hK r val s' q rv ((k₁.trans k₂).trans k) fun _ => f.before (k₁.trans k₂)

theorem truth_bool {H : AH} {N : Addr → Prop} {h : Heap} {u : V} {x : Value} {b : Bool} (r : RV N h u x) (e : truthV H u = some b) : x = .bool b := by
  cases r <;> simp [tv_none, tv_bool, tv_int, tv_str, tv_tup, tv_lst, tv_ref, tv_inst, tv_iref] at e
  subst e; rfl

theorem se_not {a : E} {y : Expr} {pos : Pos} (F : Fx G d c A env lay Sys base st s) (ha : SE G d c a y) :
    Snd G.prog G.w A (NN st.H Sys) s false (eval (.UnaryOp .Not y pos) env) (WE (G.cx d) (.not a) st) := by
  intro Q X K E hW hK hX
  simp only [we_0, we_1, we_2, we_3, we_4, we_5, we_6, we_7, we_8, we_9, we_10, we_11, we_12, we_13, we_14, we_15, we_16, we_17, we_18, we_19, we_20, we_21, we_22, we_23, we_24, we_25, we_26, we_27, we_28, we_29, we_30, we_31, we_32, we_33, we_34, we_35] at hW
  refine wpAny_UnaryOp ((ha F).weak _ X _ E hW (fun u va s₁ h₁ r₁ k₁ _ => ?_) hX)
  split at h₁
  · rename_i b hb
    obtain rfl := truth_bool r₁ hb
    exact not_value (wpAny_truthy_bool (hK _ _ _ h₁ (.bool _) k₁ nofun))
  · exact h₁.elim

theorem se_and {a b : E} {x y : Expr} {pos : Pos} (F : Fx G d c A env lay Sys base st s) (ha : SE G d c a x) (hb : SE G d c b y) :
    Snd G.prog G.w A (NN st.H Sys) s false (eval (.BoolOp .And [x, y] pos) env) (WE (G.cx d) (.and a b) st) := by
  intro Q X K E hW hK hX
  simp only [we_0, we_1, we_2, we_3, we_4, we_5, we_6, we_7, we_8, we_9, we_10, we_11, we_12, we_13, we_14, we_15, we_16, we_17, we_18, we_19, we_20, we_21, we_22, we_23, we_24, we_25, we_26, we_27, we_28, we_29, we_30, we_31, we_32, we_33, we_34, we_35] at hW
  refine wpAny_And2 ((ha F).weak _ X _ E hW (fun u va s₁ h₁ r₁ k₁ _ => ?_) hX)
  split at h₁
  · rename_i hb'
    obtain rfl := truth_bool r₁ hb'
    refine wpAny_truthy_bool ?_
    rw [if_pos rfl]
    exact (hb (F.keeps k₁)).weak _ X _ E h₁ (fun v val s' q r k _ => hK v val s' q r (k₁.trans k) nofun) fun e s' q => hX e s' (Rz.trans k₁ q)
  · rename_i hb'
    obtain rfl := truth_bool r₁ hb'
    refine wpAny_truthy_bool ?_
    rw [if_neg (by simp)]
    exact hK _ _ _ h₁ r₁ k₁ nofun
  · exact h₁.elim
theorem se_or {a b : E} {x y : Expr} {pos : Pos} (F : Fx G d c A env lay Sys base st s) (ha : SE G d c a x) (hb : SE G d c b y) :
    Snd G.prog G.w A (NN st.H Sys) s false (eval (.BoolOp .Or [x, y] pos) env) (WE (G.cx d) (.or a b) st) := by
  intro Q X K E hW hK hX
  simp only [we_0, we_1, we_2, we_3, we_4, we_5, we_6, we_7, we_8, we_9, we_10, we_11, we_12, we_13, we_14, we_15, we_16, we_17, we_18, we_19, we_20, we_21, we_22, we_23, we_24, we_25, we_26, we_27, we_28, we_29, we_30, we_31, we_32, we_33, we_34, we_35] at hW
  refine wpAny_Or2 ((ha F).weak _ X _ E hW (fun u va s₁ h₁ r₁ k₁ _ => ?_) hX)
  split at h₁
  · rename_i hb'
    obtain rfl := truth_bool r₁ hb'
    refine wpAny_truthy_bool ?_
    rw [if_pos rfl]
    exact hK _ _ _ h₁ r₁ k₁ nofun
  · rename_i hb'
    obtain rfl := truth_bool r₁ hb'
    refine wpAny_truthy_bool ?_
    rw [if_neg (by simp)]
    exact (hb (F.keeps k₁)).weak _ X _ E h₁ (fun v val s' q r k _ => hK v val s' q r (k₁.trans k) nofun) fun e s' q => hX e s' (Rz.trans k₁ q)
  · exact h₁.elim

end

end Mine
end

section
set_option autoImplicit false
namespace Mine
open PySem

theorem dictP_inv {H : AH} {u : V} {P : Nat → List (List At × V) → Prop} (h : dictP H u P) : ∃ a kvs, u = .ref a ∧ H a = some (.dict kvs) ∧ P a kvs := by
  cases u with
  | ref a =>
    have h : (match H a with
      | some (.dict kvs) => P a kvs
      | _ => False) := h
    cases e : H a with
    | none => rw [e] at h; exact h.elim
    | some o =>
      rw [e] at h
      cases o with
      | dict kvs => exact ⟨a, kvs, rfl, e, h⟩
      | _ => exact h.elim
  | _ => exact False.elim h
theorem noDict {hsh : HFn} {H : AH} {Sys : Addr → Prop} {h : Heap} {u : V} {P : Nat → List (List At × V) → Prop} (ho : HO hsh H Sys h) (hW : dictP H u P) : False := by
  obtain ⟨a, kvs, _, e, _⟩ := dictP_inv hW
  cases ho a _ e
end Mine
end

section
set_option autoImplicit false
namespace Mine
open PySem PySem.F
end Mine
end

section
set_option autoImplicit false
namespace Mine
open PySem

mutual
theorem reads_of {N : Addr → Prop} {h : Heap} : ∀ (v : V) (x : Value) (d : PyData), RV N h v x → toD v = some d → (∃ as, Reads h x d as) ∧ d.canLay0 = true
  | .none, _, d, r, e => by cases r; simp [td_none, td_bool, td_int, td_str, td_tup, td_lst, td_ref, td_inst, td_iref] at e; subst e; exact ⟨⟨_, .none⟩, by simp [PyData.canLay0]⟩
  | .bool b, _, d, r, e => by cases r; simp [td_none, td_bool, td_int, td_str, td_tup, td_lst, td_ref, td_inst, td_iref] at e; subst e; exact ⟨⟨_, .bool b⟩, by simp [PyData.canLay0]⟩
  | .int i, _, d, r, e => by cases r; simp [td_none, td_bool, td_int, td_str, td_tup, td_lst, td_ref, td_inst, td_iref] at e; subst e; exact ⟨⟨_, .int i _⟩, by simp [PyData.canLay0]⟩
  | .str u, _, d, r, e => by
    cases r with
    | str _ _ ho => simp [td_none, td_bool, td_int, td_str, td_tup, td_lst, td_ref, td_inst, td_iref] at e; subst e; exact ⟨⟨_, .str u _⟩, by simp [PyData.canLay0, ho.strOk]⟩
  | .tup vs, _, d, r, e => by
    cases r with
    | tup h1 h2 h3 h4 =>
      simp only [td_none, td_bool, td_int, td_str, td_tup, td_lst, td_ref, td_inst, td_iref, Option.map_eq_some_iff] at e
      obtain ⟨ds, e1, rfl⟩ := e
      obtain ⟨⟨as, ra⟩, hc⟩ := readsAll_of vs _ ds h4 e1
      exact ⟨⟨_, .tuple h2 rfl rfl ra⟩, by simpa [PyData.canLay0] using hc⟩
  | .lst vs, _, d, r, e => by
    cases r with
    | lst h1 h2 h3 h4 =>
      simp only [td_none, td_bool, td_int, td_str, td_tup, td_lst, td_ref, td_inst, td_iref, Option.map_eq_some_iff] at e
      obtain ⟨ds, e1, rfl⟩ := e
      obtain ⟨⟨as, ra⟩, hc⟩ := readsAll_of vs _ ds h4 e1
      exact ⟨⟨_, .list h2 rfl rfl ra⟩, by simpa [PyData.canLay0] using hc⟩
  | .ref _, _, d, r, e => by simp [td_none, td_bool, td_int, td_str, td_tup, td_lst, td_ref, td_inst, td_iref] at e
  | .inst _ _ _, _, d, r, e => by simp [td_none, td_bool, td_int, td_str, td_tup, td_lst, td_ref, td_inst, td_iref] at e
  | .iref _ _ _, _, d, r, e => by simp [td_none, td_bool, td_int, td_str, td_tup, td_lst, td_ref, td_inst, td_iref] at e
theorem readsAll_of {N : Addr → Prop} {h : Heap} : ∀ (vs : List V) (xs : List Value) (ds : List PyData), RVs N h vs xs → toDs vs = some ds → (∃ as, ReadsAll h xs ds as) ∧ PyData.canLayAll0 ds = true
  | [], _, ds, r, e => by cases r; simp [tds_nil, tds_cons] at e; subst e; exact ⟨⟨_, .nil⟩, by simp [PyData.canLayAll0]⟩
  | v :: vs, _, ds, r, e => by
    cases r with
    | cons r1 r2 =>
      simp only [tds_nil, tds_cons] at e
      split at e
      · rename_i d' ds' e1 e2
        cases e
        obtain ⟨⟨as, ra⟩, ha⟩ := reads_of v _ d' r1 e1
        obtain ⟨⟨bs, rb⟩, hb⟩ := readsAll_of vs _ ds' r2 e2
        exact ⟨⟨_, .cons ra rb⟩, by simp [PyData.canLayAll0, ha, hb]⟩
      · cases e
end

theorem reads_res {hsh : HFn} {H : AH} {Sys : Addr → Prop} {h : Heap} (ho : HO hsh H Sys h) {v : V} {x : Value} {d : PyData} (r : RV (NN H Sys) h v x) (e : toD (resV H v) = some d) : (∃ as, Reads h x d as) ∧ d.canLay0 = true := by
  cases r with
  | ref a =>
    simp only [rv_none, rv_bool, rv_int, rv_str, rv_tup, rv_lst, rv_ref, rv_inst, rv_iref] at e
    split at e
    · rename_i vs hv
      cases ho a _ hv with
      | list h1 h2 h3 =>
        simp only [td_none, td_bool, td_int, td_str, td_tup, td_lst, td_ref, td_inst, td_iref, Option.map_eq_some_iff] at e
        obtain ⟨ds, e1, rfl⟩ := e
        obtain ⟨⟨as, ra⟩, hc⟩ := readsAll_of vs _ ds h3 e1
        exact ⟨⟨_, .list h1 rfl rfl ra⟩, by simpa [PyData.canLay0] using hc⟩
    · simp [td_none, td_bool, td_int, td_str, td_tup, td_lst, td_ref, td_inst, td_iref] at e
  | none => exact reads_of (N := NN H Sys) _ _ _ .none e
  | bool b => exact reads_of (N := NN H Sys) _ _ _ (.bool b) e
  | int i t => exact reads_of (N := NN H Sys) _ _ _ (.int i t) e
  | str u t o => exact reads_of (N := NN H Sys) _ _ _ (.str u t o) e
  | tup a b c d => exact reads_of (N := NN H Sys) _ _ _ (.tup a b c d) e
  | lst a b c d => exact reads_of (N := NN H Sys) _ _ _ (.lst a b c d) e
  | iref => cases e
  | inst => cases e

section
variable {hsh : HFn} {prog : Program} {w : World} {A : Around} {E : Value → Shared → Prop} {s : Shared} {H : AH} {Sys : Addr → Prop} {mg mb : Str → Option Value} {d : Nat}

theorem prim_eq {u v : V} {a b : Value} {Q : Bool → Prop} {K : Value → Shared → Prop} (R : RmF d A) (ho : HO hsh H Sys s.heap) (hW : eqV H u v Q) (ra : RV (NN H Sys) s.heap u a) (rb : RV (NN H Sys) s.heap v b)
    (hK : ∀ r, Q r → K (.bool r) s) : wpAny (model prog w) A (compareOp .Eq a b) K E s := by
  unfold eqV at hW
  split at hW
  · rename_i x y e1 e2
    obtain ⟨⟨as, r1⟩, c1⟩ := reads_res ho ra e1
    obtain ⟨⟨bs, r2⟩, c2⟩ := reads_res ho rb e2
    exact SeqAt.compareEq_reads r1 r2 c1 c2 (by have := R.units; have := hW.1; omega) (hK _ hW.2)
  · exact hW.elim
theorem prim_ne {u v : V} {a b : Value} {Q : Bool → Prop} {K : Value → Shared → Prop} (R : RmF d A) (ho : HO hsh H Sys s.heap) (hW : eqV H u v (fun r => Q (!r))) (ra : RV (NN H Sys) s.heap u a) (rb : RV (NN H Sys) s.heap v b)
    (hK : ∀ r, Q r → K (.bool r) s) : wpAny (model prog w) A (compareOp .NotEq a b) K E s := by
  unfold eqV at hW
  split at hW
  · rename_i x y e1 e2
    obtain ⟨⟨as, r1⟩, c1⟩ := reads_res ho ra e1
    obtain ⟨⟨bs, r2⟩, c2⟩ := reads_res ho rb e2
    exact SeqAt.compareNe_reads r1 r2 c1 c2 (by have := R.units; have := hW.1; omega) (hK _ hW.2)
  · exact hW.elim

theorem prim_in {u v : V} {a b : Value} {Q : Bool → Prop} {K : Value → Shared → Prop} (R : RmF d A) (hH : hsh = wHash w) (ho : HO hsh H Sys s.heap) (hW : inV H u v Q) (ra : RV (NN H Sys) s.heap u a) (rb : RV (NN H Sys) s.heap v b)
    (hK : ∀ r s', Q r → Kp s s' → K (.bool r) s') : wpAny (model prog w) A (compareOp .In a b) K E s ∧ (∀ K' : Value → Shared → Prop, (∀ r s', Q r → Kp s s' → K' (.bool (!r)) s') → wpAny (model prog w) A (compareOp .NotIn a b) K' E s) := by
  cases rb with
  | str y _ _ =>
    replace hW := strP_inv hW; obtain ⟨x, rfl, hW⟩ := hW
    cases ra
    exact ⟨PyProof.Rows.in_str (hK _ s hW (Kp.refl s)), fun K' h' => PyProof.Rows.notIn_str (h' _ s hW (Kp.refl s))⟩
  | ref b =>
    exact False.elim (noDict (u := .ref b) (P := fun _ kvs => keyP u fun ks => Q (dlook ks kvs).isSome) ho hW)
  | _ => exact False.elim hW

theorem prim_cmp {op : Cop} {u v : V} {a b : Value} {Q : Bool → Prop} {K : Value → Shared → Prop} (R : RmF d A) (hH : hsh = wHash w) (ho : HO hsh H Sys s.heap) (hW : cmpV H op u v Q) (ra : RV (NN H Sys) s.heap u a) (rb : RV (NN H Sys) s.heap v b)
    (hK : ∀ r s', Q r → Kp s s' → K (.bool r) s') : wpAny (model prog w) A (compareOp (copOf op) a b) K E s := by
  have hk0 : ∀ r, Q r → K (.bool r) s := fun r q => hK r s q (Kp.refl s)
  cases op with
  | eq => exact prim_eq R ho hW ra rb hk0
  | ne => exact prim_ne R ho hW ra rb hk0
  | lt =>
    replace hW := intP_inv hW; obtain ⟨i, rfl, hW⟩ := hW
    replace hW := intP_inv hW; obtain ⟨j, rfl, hW⟩ := hW
    cases ra; cases rb; exact PyProof.Rows.lt_int (hk0 _ hW)
  | le =>
    replace hW := intP_inv hW; obtain ⟨i, rfl, hW⟩ := hW
    replace hW := intP_inv hW; obtain ⟨j, rfl, hW⟩ := hW
    cases ra; cases rb; exact PyProof.Rows.le_int (hk0 _ hW)
  | gt =>
    replace hW := intP_inv hW; obtain ⟨i, rfl, hW⟩ := hW
    replace hW := intP_inv hW; obtain ⟨j, rfl, hW⟩ := hW
    cases ra; cases rb; exact PyProof.Rows.gt_int (hk0 _ hW)
  | ge =>
    replace hW := intP_inv hW; obtain ⟨i, rfl, hW⟩ := hW
    replace hW := intP_inv hW; obtain ⟨j, rfl, hW⟩ := hW
    cases ra; cases rb; exact PyProof.Rows.ge_int (hk0 _ hW)
  | is =>
    obtain ⟨rfl, hW⟩ := noneP_inv hW
    cases rb
    refine is_none ?_
    have := hk0 _ hW
    cases ra <;> exact this
  | isnot =>
    obtain ⟨rfl, hW⟩ := noneP_inv hW
    cases rb
    refine isNot_none ?_
    have := hk0 _ hW
    cases ra <;> exact this
  | isin => exact (prim_in R hH ho hW ra rb hK).1
  | notin => exact (prim_in (Q := fun r => Q (!r)) (K := fun _ _ => True) R hH ho hW ra rb fun _ _ _ _ => trivial).2 K fun r s' q k => by exact hK _ s' q k
end

section
variable {G : PG} {d : Nat} {c : Sc} {A : Around} {env : Env} {lay : Nat → Option Place} {Sys : Addr → Prop} {base : Heap} {st : St} {s : Shared}

/-- a chain of comparisons -/
noncomputable abbrev SCh (G : PG) (d : Nat) (c : Sc) (ch : Ch) (ops : List CmpOp) (rs : List Expr) : Prop :=
  ∀ {A : Around} {env : Env} {lay : Nat → Option Place} {Sys : Addr → Prop} {base : Heap} {st : St} {s : Shared}, Fx G d c A env lay Sys base st s →
    ∀ (u : V) (a : Value) (pos : Pos), RV (NN st.H Sys) s.heap u a → ∀ (Q : Bool → Prop) (X : String → Prop), WCh (G.cx d) ch st u Q X →
      (∀ (K E : Value → Shared → Prop), (∀ r s', Q r → Kp s s' → K (.bool r) s') → (∀ e s', Rz s X e s' → E e s') → wpAny (model G.prog G.w) A (compareChain pos a ops (evalEach rs env)) K E s) ∧
      (∀ (K : Bool → Shared → Prop) (E : Value → Shared → Prop), (∀ r s', Q r → Kp s s' → K r s') → (∀ e s', Rz s X e s' → E e s') → wpAny (model G.prog G.w) A (testChain pos a ops (evalEach rs env)) K E s)

theorem sch_one {op : Cop} {e : E} {x : Expr} (he : SE G d c e x) : SCh G d c (.one op e) [copOf op] [x] := by
  intro A env lay Sys base st s F u a pos ru Q X hW
  simp only [wch_0, wch_1] at hW
  have key : ∀ (K E : Value → Shared → Prop), (∀ r s', Q r → Kp s s' → K (.bool r) s') → (∀ e s', Rz s X e s' → E e s') →
      wpAny (model G.prog G.w) A (eval x env) (fun b s₁ => wpAny (model G.prog G.w) A (compareOp (copOf op) a b) K E s₁) E s := by
    intro K E hK hX
    refine (he F).weak _ X _ E hW (fun v b s₁ h₁ r₁ k₁ _ => ?_) hX
    exact prim_cmp (F.keeps k₁).rm rfl (F.keeps k₁).sim.objs h₁ (ru.keeps k₁.hk) r₁ fun r s' q k => hK r s' q (k₁.trans k)
  refine ⟨fun K E hK hX => PyProof.Rows.chain_last (key K E hK hX), fun K E hK hX => ?_⟩
  exact PyProof.Rows.test_last (key (fun v s' => wpAny (model G.prog G.w) A (truthy v) K E s') E (fun r s' q k => wpAny_truthy_bool (hK r s' q k)) hX)
theorem sch_more {op : Cop} {e : E} {x x2 : Expr} {ch : Ch} {o2 : CmpOp} {ops : List CmpOp} {xs : List Expr} (he : SE G d c e x) (hc : SCh G d c ch (o2 :: ops) (x2 :: xs)) : SCh G d c (.more op e ch) (copOf op :: o2 :: ops) (x :: x2 :: xs) := by
  intro A env lay Sys base st s F u a pos ru Q X hW
  simp only [wch_0, wch_1] at hW
  constructor
  · intro K E hK hX
    refine PyProof.Rows.chain_link ((he F).weak _ X _ E hW (fun v b s₁ h₁ r₁ k₁ _ => ?_) hX)
    refine prim_cmp (F.keeps k₁).rm rfl (F.keeps k₁).sim.objs h₁ (ru.keeps k₁.hk) r₁ fun r s₂ q k₂ => wpAny_truthy_bool ?_
    have k₁ := k₁.trans k₂
    cases r
    · simp only [Bool.false_eq_true, if_false] at q ⊢; exact hK false s₂ q k₁
    · simp only [if_true] at q ⊢
      exact (hc (F.keeps k₁) v b pos (r₁.keeps k₂.hk) Q X q).1 K E (fun r s' q k => hK r s' q (k₁.trans k)) fun e s' q => hX e s' (Rz.trans k₁ q)
  · intro K E hK hX
    refine PyProof.Rows.test_link ((he F).weak _ X _ E hW (fun v b s₁ h₁ r₁ k₁ _ => ?_) hX)
    refine prim_cmp (F.keeps k₁).rm rfl (F.keeps k₁).sim.objs h₁ (ru.keeps k₁.hk) r₁ fun r s₂ q k₂ => wpAny_truthy_bool ?_
    have k₁ := k₁.trans k₂
    cases r
    · simp only [Bool.false_eq_true, if_false] at q ⊢; exact hK false s₂ q k₁
    · simp only [if_true] at q ⊢
      exact (hc (F.keeps k₁) v b pos (r₁.keeps k₂.hk) Q X q).2 K E (fun r s' q k => hK r s' q (k₁.trans k)) fun e s' q => hX e s' (Rz.trans k₁ q)
end

end Mine
end

section
set_option autoImplicit false
namespace Mine
open PySem

section
variable {hsh : HFn} {prog : Program} {w : World} {A : Around} {E : Value → Shared → Prop} {s : Shared} {H : AH} {Sys : Addr → Prop} {mg mb : Str → Option Value} {d : Nat}

theorem idx_eq (n : Nat) (i : Int) : idx n i = seqIndex? i n := by
  unfold idx seqIndex?
  by_cases h : 0 ≤ i
  · rw [if_pos h]
    have h' : ¬ i < 0 := by omega
    simp only [h', if_false]
    by_cases h2 : i < n
    · simp [h, h2]
    · simp [h2]
  · rw [if_neg h]
    have h' : i < 0 := by omega
    simp only [h', if_true]
    by_cases h2 : 0 ≤ i + n
    · have h3 : i + n < n := by omega
      simp [h2, h3]
    · simp [h2]
theorem idx_some {n k : Nat} {i : Int} (h : idx n i = some k) : k < n ∧ -(n : Int) ≤ i ∧ i < n ∧ (0 ≤ i → k = i.toNat) ∧ (i < 0 → k = (i + n).toNat) := by
  unfold idx at h
  split at h
  · split at h
    · cases h; omega
    · cases h
  · split at h
    · cases h; omega
    · cases h

theorem get_list {l : Addr} {xs : Array Value} {n k : Nat} {i : Int} {u : Tok} {x : Value} {K : Value → Shared → Prop} (hl : IsL s.heap l xs n) (hz : xs.size ≤ sizeLine) (hi : idx xs.size i = some k) (hx : xs[k]? = some x)
    (h : K x s) : wpAny (model prog w) A (getItem (.ref l) (.int i u)) K E s := by
  obtain ⟨h1, h2, h3, h4, h5⟩ := idx_some hi
  have hs : sizeLine = 16777216 := rfl
  by_cases h0 : 0 ≤ i
  · exact wpAny_getItem_list hl.isList h0 (by omega) (by rw [← h4 h0]; exact hx) h
  · exact wpAny_getItem_list_neg hl.isList (by omega) (by omega) (by omega) (by rw [← h5 (by omega)]; exact hx) h

theorem prim_sub {value slice : Expr} {u v : V} {a b : Value} {Q : V → Prop} {K : Value → Shared → Prop} (R : RmF d A) (hH : hsh = wHash w) (ho : HO hsh H Sys s.heap) (hp : plainX slice = true) (hW : subV H u v Q) (ra : RV (NN H Sys) s.heap u a) (rb : RV (NN H Sys) s.heap v b)
    (hK : ∀ r val s', Q r → RV (NN H Sys) s'.heap r val → Kp s s' → K val s') : wpAny (model prog w) A (PyProof.Rows.subscriptTail value slice a b) K E s := by
  have hs : ∀ o i, subscripted slice false o i = operate [o, i] (getItem o i) := fun o i => by
    cases slice <;> first | rfl | exact ff hp
  unfold subV at hW
  split at hW
  · cases ra
    split at hW
    · rename_i kvs hd
      cases ho _ _ hd
    · rename_i vs hl
      cases ho _ _ hl with
      | list h1 h2 h3 =>
        split at hW
        · cases rb
          split at hW
          · rename_i n hn
            split at hW
            · rename_i r hr
              obtain ⟨x, e, rx⟩ := h3.get n hr
              have hlen := h3.size
              rw [hlen] at hn
              exact PyProof.Rows.tail_any h1.isList.typeIs slot_list_getitem.lookup (get_list h1 h2 hn (by simpa using e) (hK _ _ _ hW rx (Kp.refl s))) (hs _ _)
            · exact hW.elim
          · exact hW.elim
        · exact hW.elim
    · exact hW.elim
  · cases ra with
    | str _ t hx =>
      rename_i x _
      cases rb
      split at hW
      · rename_i n hn
        split at hW
        · rename_i cc hc
          have hs' : sizeLine = 16777216 := rfl
          obtain ⟨h1, h2, h3, _⟩ := idx_some hn
          have := hx.1
          refine PyProof.Rows.tail_any (typeIs_str s x t) F.slot_str_getitem.lookup (PyProof.Rows.getItem_str (c := cc) ?_ ?_ (hK _ _ _ hW (.str _ _ (hx.one (List.mem_of_getElem? hc))) (Kp.tok s _))) (hs _ _)
          · simp only [Bool.or_eq_false_iff, decide_eq_false_iff_not]; omega
          · rw [← idx_eq, hn]; simpa using hc
        · exact hW.elim
      · exact hW.elim
  · cases ra with
    | lst h0 h1 h2 h3 =>
      cases rb
      split at hW
      · rename_i n hn
        split at hW
        · rename_i r hr
          obtain ⟨x, e, rx⟩ := h3.get n hr
          have hlen := h3.size
          rw [hlen] at hn
          exact PyProof.Rows.tail_any h1.isList.typeIs slot_list_getitem.lookup (get_list h1 h2 hn (by simpa using e) (hK _ _ _ hW rx (Kp.refl s))) (hs _ _)
        · exact hW.elim
      · exact hW.elim
  · cases ra with
    | tup h0 h1 h2 h3 =>
      cases rb
      split at hW
      · rename_i n hn
        split at hW
        · rename_i r hr
          obtain ⟨x, e, rx⟩ := h3.get n hr
          have hlen := h3.size
          rw [hlen] at hn
          have hs' : sizeLine = 16777216 := rfl
          obtain ⟨a1, a2, a3, _⟩ := idx_some hn
          exact PyProof.Rows.tail_any (IsT.isTup h1).typeIs F.slot_tuple_getitem.lookup (PyProof.Rows.getItem_tuple (IsT.isTup h1) (by omega) (by omega) (by rw [← idx_eq]; exact hn) (by simpa using e) (hK _ _ _ hW rx (Kp.refl s))) (hs _ _)
        · exact hW.elim
      · exact hW.elim
  · exact hW.elim

theorem prim_isi {t : Ty} {u : V} {a : Value} {b : Bool} {K : Value → Shared → Prop} (ho : HO hsh H Sys s.heap) (hW : isT H t u = some b) (ra : RV (NN H Sys) s.heap u a) (hK : ∀ s', Kp s s' → K (.bool b) s') :
    wpAny (model prog w) A (call (.builtin "isinstance") [a, .type (tyName t)]) K E s := by
  have k0 := hK s (Kp.refl s)
  have k1 := hK { s with toks := s.toks + 1 } (Kp.tok s _)
  cases ra with
  | none => cases t <;> simp [ist_none, ist_bool, ist_int, ist_str, ist_tup, ist_lst, ist_ref, ist_inst, ist_iref, isv_int_none, isv_int_bool, isv_int_int, isv_int_str, isv_int_tup, isv_int_lst, isv_int_ref, isv_int_inst, isv_int_iref, isv_bool_none, isv_bool_bool, isv_bool_int, isv_bool_str, isv_bool_tup, isv_bool_lst, isv_bool_ref, isv_bool_inst, isv_bool_iref, isv_str_none, isv_str_bool, isv_str_int, isv_str_str, isv_str_tup, isv_str_lst, isv_str_ref, isv_str_inst, isv_str_iref, isv_tuple_none, isv_tuple_bool, isv_tuple_int, isv_tuple_str, isv_tuple_tup, isv_tuple_lst, isv_tuple_ref, isv_tuple_inst, isv_tuple_iref, isv_list_none, isv_list_bool, isv_list_int, isv_list_str, isv_list_tup, isv_list_lst, isv_list_ref, isv_list_inst, isv_list_iref, isv_own_none, isv_ve_none, isv_own_bool, isv_ve_bool, isv_own_int, isv_ve_int, isv_own_str, isv_ve_str, isv_own_tup, isv_ve_tup, isv_own_lst, isv_ve_lst, isv_own_ref, isv_ve_ref, isv_own_inst, isv_ve_inst, isv_own_iref, isv_ve_iref] at hW <;> subst hW <;> first | exact IsiPair.NoneType_int k1 | exact IsiPair.NoneType_bool k1 | exact IsiPair.NoneType_str k1 | exact IsiPair.NoneType_tuple k1 | exact IsiPair.NoneType_list k1
  | bool x => cases t <;> simp [ist_none, ist_bool, ist_int, ist_str, ist_tup, ist_lst, ist_ref, ist_inst, ist_iref, isv_int_none, isv_int_bool, isv_int_int, isv_int_str, isv_int_tup, isv_int_lst, isv_int_ref, isv_int_inst, isv_int_iref, isv_bool_none, isv_bool_bool, isv_bool_int, isv_bool_str, isv_bool_tup, isv_bool_lst, isv_bool_ref, isv_bool_inst, isv_bool_iref, isv_str_none, isv_str_bool, isv_str_int, isv_str_str, isv_str_tup, isv_str_lst, isv_str_ref, isv_str_inst, isv_str_iref, isv_tuple_none, isv_tuple_bool, isv_tuple_int, isv_tuple_str, isv_tuple_tup, isv_tuple_lst, isv_tuple_ref, isv_tuple_inst, isv_tuple_iref, isv_list_none, isv_list_bool, isv_list_int, isv_list_str, isv_list_tup, isv_list_lst, isv_list_ref, isv_list_inst, isv_list_iref, isv_own_none, isv_ve_none, isv_own_bool, isv_ve_bool, isv_own_int, isv_ve_int, isv_own_str, isv_ve_str, isv_own_tup, isv_ve_tup, isv_own_lst, isv_ve_lst, isv_own_ref, isv_ve_ref, isv_own_inst, isv_ve_inst, isv_own_iref, isv_ve_iref] at hW <;> subst hW <;> first | exact IsiPair.bool_int k0 | exact IsiPair.bool_bool k0 | exact IsiPair.bool_str k1 | exact IsiPair.bool_tuple k1 | exact IsiPair.bool_list k1
  | int i tt => cases t <;> simp [ist_none, ist_bool, ist_int, ist_str, ist_tup, ist_lst, ist_ref, ist_inst, ist_iref, isv_int_none, isv_int_bool, isv_int_int, isv_int_str, isv_int_tup, isv_int_lst, isv_int_ref, isv_int_inst, isv_int_iref, isv_bool_none, isv_bool_bool, isv_bool_int, isv_bool_str, isv_bool_tup, isv_bool_lst, isv_bool_ref, isv_bool_inst, isv_bool_iref, isv_str_none, isv_str_bool, isv_str_int, isv_str_str, isv_str_tup, isv_str_lst, isv_str_ref, isv_str_inst, isv_str_iref, isv_tuple_none, isv_tuple_bool, isv_tuple_int, isv_tuple_str, isv_tuple_tup, isv_tuple_lst, isv_tuple_ref, isv_tuple_inst, isv_tuple_iref, isv_list_none, isv_list_bool, isv_list_int, isv_list_str, isv_list_tup, isv_list_lst, isv_list_ref, isv_list_inst, isv_list_iref, isv_own_none, isv_ve_none, isv_own_bool, isv_ve_bool, isv_own_int, isv_ve_int, isv_own_str, isv_ve_str, isv_own_tup, isv_ve_tup, isv_own_lst, isv_ve_lst, isv_own_ref, isv_ve_ref, isv_own_inst, isv_ve_inst, isv_own_iref, isv_ve_iref] at hW <;> subst hW <;> first | exact IsiPair.int_int k0 | exact IsiPair.int_bool k1 | exact IsiPair.int_str k1 | exact IsiPair.int_tuple k1 | exact IsiPair.int_list k1
  | str x tt hx => cases t <;> simp [ist_none, ist_bool, ist_int, ist_str, ist_tup, ist_lst, ist_ref, ist_inst, ist_iref, isv_int_none, isv_int_bool, isv_int_int, isv_int_str, isv_int_tup, isv_int_lst, isv_int_ref, isv_int_inst, isv_int_iref, isv_bool_none, isv_bool_bool, isv_bool_int, isv_bool_str, isv_bool_tup, isv_bool_lst, isv_bool_ref, isv_bool_inst, isv_bool_iref, isv_str_none, isv_str_bool, isv_str_int, isv_str_str, isv_str_tup, isv_str_lst, isv_str_ref, isv_str_inst, isv_str_iref, isv_tuple_none, isv_tuple_bool, isv_tuple_int, isv_tuple_str, isv_tuple_tup, isv_tuple_lst, isv_tuple_ref, isv_tuple_inst, isv_tuple_iref, isv_list_none, isv_list_bool, isv_list_int, isv_list_str, isv_list_tup, isv_list_lst, isv_list_ref, isv_list_inst, isv_list_iref, isv_own_none, isv_ve_none, isv_own_bool, isv_ve_bool, isv_own_int, isv_ve_int, isv_own_str, isv_ve_str, isv_own_tup, isv_ve_tup, isv_own_lst, isv_ve_lst, isv_own_ref, isv_ve_ref, isv_own_inst, isv_ve_inst, isv_own_iref, isv_ve_iref] at hW <;> subst hW <;> first | exact IsiPair.str_int k1 | exact IsiPair.str_bool k1 | exact IsiPair.str_str k0 | exact IsiPair.str_tuple k1 | exact IsiPair.str_list k1
  | iref => cases t <;> cases hW
  | inst => cases t <;> cases hW
  | tup h0 h1 h2 h3 =>
    have hl := IsT.isTuple h1
    cases t <;> simp [ist_none, ist_bool, ist_int, ist_str, ist_tup, ist_lst, ist_ref, ist_inst, ist_iref, isv_int_none, isv_int_bool, isv_int_int, isv_int_str, isv_int_tup, isv_int_lst, isv_int_ref, isv_int_inst, isv_int_iref, isv_bool_none, isv_bool_bool, isv_bool_int, isv_bool_str, isv_bool_tup, isv_bool_lst, isv_bool_ref, isv_bool_inst, isv_bool_iref, isv_str_none, isv_str_bool, isv_str_int, isv_str_str, isv_str_tup, isv_str_lst, isv_str_ref, isv_str_inst, isv_str_iref, isv_tuple_none, isv_tuple_bool, isv_tuple_int, isv_tuple_str, isv_tuple_tup, isv_tuple_lst, isv_tuple_ref, isv_tuple_inst, isv_tuple_iref, isv_list_none, isv_list_bool, isv_list_int, isv_list_str, isv_list_tup, isv_list_lst, isv_list_ref, isv_list_inst, isv_list_iref, isv_own_none, isv_ve_none, isv_own_bool, isv_ve_bool, isv_own_int, isv_ve_int, isv_own_str, isv_ve_str, isv_own_tup, isv_ve_tup, isv_own_lst, isv_ve_lst, isv_own_ref, isv_ve_ref, isv_own_inst, isv_ve_inst, isv_own_iref, isv_ve_iref] at hW <;> subst hW <;> first
      | exact IsiPair.isTuple_int hl (fun _ _ e => e) k1 | exact IsiPair.isTuple_bool hl (fun _ _ e => e) k1 | exact IsiPair.isTuple_str hl (fun _ _ e => e) k1 | exact IsiPair.isTuple_tuple hl (fun _ _ e => e) k0 | exact IsiPair.isTuple_list hl (fun _ _ e => e) k1
  | lst h0 h1 h2 h3 =>
    have hl := IsL.isList h1
    cases t <;> simp [ist_none, ist_bool, ist_int, ist_str, ist_tup, ist_lst, ist_ref, ist_inst, ist_iref, isv_int_none, isv_int_bool, isv_int_int, isv_int_str, isv_int_tup, isv_int_lst, isv_int_ref, isv_int_inst, isv_int_iref, isv_bool_none, isv_bool_bool, isv_bool_int, isv_bool_str, isv_bool_tup, isv_bool_lst, isv_bool_ref, isv_bool_inst, isv_bool_iref, isv_str_none, isv_str_bool, isv_str_int, isv_str_str, isv_str_tup, isv_str_lst, isv_str_ref, isv_str_inst, isv_str_iref, isv_tuple_none, isv_tuple_bool, isv_tuple_int, isv_tuple_str, isv_tuple_tup, isv_tuple_lst, isv_tuple_ref, isv_tuple_inst, isv_tuple_iref, isv_list_none, isv_list_bool, isv_list_int, isv_list_str, isv_list_tup, isv_list_lst, isv_list_ref, isv_list_inst, isv_list_iref, isv_own_none, isv_ve_none, isv_own_bool, isv_ve_bool, isv_own_int, isv_ve_int, isv_own_str, isv_ve_str, isv_own_tup, isv_ve_tup, isv_own_lst, isv_ve_lst, isv_own_ref, isv_ve_ref, isv_own_inst, isv_ve_inst, isv_own_iref, isv_ve_iref] at hW <;> subst hW <;> first
      | exact IsiPair.isList_int hl (fun _ _ e => e) k1 | exact IsiPair.isList_bool hl (fun _ _ e => e) k1 | exact IsiPair.isList_str hl (fun _ _ e => e) k1 | exact IsiPair.isList_tuple hl (fun _ _ e => e) k1 | exact IsiPair.isList_list hl (fun _ _ e => e) k0
  | ref ad =>
    simp only [ist_none, ist_bool, ist_int, ist_str, ist_tup, ist_lst, ist_ref, ist_inst, ist_iref] at hW
    split at hW
    · rename_i vs hv
      cases ho _ _ hv with
      | list h1 h2 h3 =>
        have hl := IsL.isList h1
        cases t <;> simp [isv_int_none, isv_int_bool, isv_int_int, isv_int_str, isv_int_tup, isv_int_lst, isv_int_ref, isv_int_inst, isv_int_iref, isv_bool_none, isv_bool_bool, isv_bool_int, isv_bool_str, isv_bool_tup, isv_bool_lst, isv_bool_ref, isv_bool_inst, isv_bool_iref, isv_str_none, isv_str_bool, isv_str_int, isv_str_str, isv_str_tup, isv_str_lst, isv_str_ref, isv_str_inst, isv_str_iref, isv_tuple_none, isv_tuple_bool, isv_tuple_int, isv_tuple_str, isv_tuple_tup, isv_tuple_lst, isv_tuple_ref, isv_tuple_inst, isv_tuple_iref, isv_list_none, isv_list_bool, isv_list_int, isv_list_str, isv_list_tup, isv_list_lst, isv_list_ref, isv_list_inst, isv_list_iref, isv_own_none, isv_ve_none, isv_own_bool, isv_ve_bool, isv_own_int, isv_ve_int, isv_own_str, isv_ve_str, isv_own_tup, isv_ve_tup, isv_own_lst, isv_ve_lst, isv_own_ref, isv_ve_ref, isv_own_inst, isv_ve_inst, isv_own_iref, isv_ve_iref] at hW <;> subst hW <;> first
          | exact IsiPair.isList_int hl (fun _ _ e => e) k1 | exact IsiPair.isList_bool hl (fun _ _ e => e) k1 | exact IsiPair.isList_str hl (fun _ _ e => e) k1 | exact IsiPair.isList_tuple hl (fun _ _ e => e) k1 | exact IsiPair.isList_list hl (fun _ _ e => e) k0
    · cases hW

theorem prim_len {u : V} {a : Value} {n : Nat} {K : Value → Shared → Prop} (ho : HO hsh H Sys s.heap) (hW : sizeV H u = some n) (ra : RV (NN H Sys) s.heap u a) (hK : ∀ t s', Kp s s' → K (.int n t) s') :
    wpAny (model prog w) A (call (.builtin "len") [a]) K E s := by
  have hs' : sizeLine = 16777216 := rfl
  cases ra with
  | str x t hx =>
    simp [zv_none, zv_bool, zv_int, zv_str, zv_tup, zv_lst, zv_ref, zv_inst, zv_iref] at hW; subst hW
    exact PyProof.Rows.len_str (by have := hx.1; omega) (hK _ _ (Kp.tok s _))
  | tup h0 h1 h2 h3 =>
    simp [zv_none, zv_bool, zv_int, zv_str, zv_tup, zv_lst, zv_ref, zv_inst, zv_iref] at hW; subst hW
    have := h3.size; rw [this] at hK
    exact PyProof.Rows.len_tuple (IsT.isTup h1) (by omega) (hK _ _ (Kp.tok s _))
  | lst h0 h1 h2 h3 =>
    simp [zv_none, zv_bool, zv_int, zv_str, zv_tup, zv_lst, zv_ref, zv_inst, zv_iref] at hW; subst hW
    have := h3.size; rw [this] at hK
    exact Calls.call_len_list (IsL.isList h1) (by omega) (hK _ _ (Kp.tok s _))
  | ref ad =>
    simp only [zv_none, zv_bool, zv_int, zv_str, zv_tup, zv_lst, zv_ref, zv_inst, zv_iref] at hW
    split at hW
    · rename_i vs hv
      cases ho _ _ hv with
      | list h1 h2 h3 =>
        cases hW
        have := h3.size; rw [this] at hK
        exact Calls.call_len_list (IsL.isList h1) (by omega) (hK _ _ (Kp.tok s _))
    · cases hW
  | _ => simp [zv_none, zv_bool, zv_int, zv_str, zv_tup, zv_lst, zv_ref, zv_inst, zv_iref] at hW
end

end Mine
end

section
set_option autoImplicit false
namespace Mine
open PySem

theorem starEach_cons {x : Expr} {r : List Expr} {env : Env} (h : noStar x = true) : starEach (x :: r) env = (false, eval x env) :: starEach r env := by
  cases x <;> first | rfl | exact ff h
theorem star_plain (pos : Pos) (env : Env) : ∀ (xs : List Expr), xs.all noStar = true → (backTo pos (starEach xs env)).any (·.1) = false
  | [], _ => rfl
  | x :: r, h => by
    simp only [List.all_cons, Bool.and_eq_true] at h
    rw [starEach_cons h.1]
    have := star_plain pos env r h.2
    simpa [backTo] using this

noncomputable abbrev SEs (G : PG) (d : Nat) (c : Sc) (es : Es) (xs : List Expr) : Prop :=
  xs.all noStar = true ∧ ∀ {A : Around} {env : Env} {lay : Nat → Option Place} {Sys : Addr → Prop} {base : Heap} {st : St} {s : Shared}, Fx G d c A env lay Sys base st s →
    ∀ (pos : Pos) (Q : List V → Prop) (X : String → Prop) (K : List Value → Shared → Prop) (E : Value → Shared → Prop), WEs (G.cx d) es st Q X →
      (∀ vs vals s', Q vs → RVs (NN st.H Sys) s'.heap vs vals → Kp s s' → K vals s') → (∀ e s', Rz s X e s' → E e s') →
      wpAny (model G.prog G.w) A (spliced (backTo pos (starEach xs env))) K E s

theorem ses_nil {G : PG} {d : Nat} {c : Sc} : SEs G d c .nil [] :=
  ⟨rfl, fun {A env lay Sys base st s} _ pos Q X K E hW hK _ => wpAny_items_nil (hK [] [] s (by simpa [wes_0, wes_1] using hW) .nil (Kp.refl s))⟩
theorem ses_cons {G : PG} {d : Nat} {c : Sc} {e : E} {es : Es} {x : Expr} {xs : List Expr} (hn : noStar x = true) (he : SE G d c e x) (hes : SEs G d c es xs) : SEs G d c (.cons e es) (x :: xs) := by
  refine ⟨by simp [hn, hes.1], fun {A env lay Sys base st s} F pos Q X K E hW hK hX => ?_⟩
  simp only [wes_0, wes_1] at hW
  refine wpAny_items_cons ((he F).weak _ X _ E hW (fun v a s₁ h₁ r₁ k₁ _ => ?_) hX) (starEach_cons hn)
  exact hes.2 (F.keeps k₁) pos _ X _ E h₁ (fun vs vals s' q r k => hK (v :: vs) (a :: vals) s' q (.cons (r₁.keeps k.hk) r) (k₁.trans k)) fun e s' q => hX e s' (Rz.trans k₁ q)

section
variable {G : PG} {d : Nat} {c : Sc} {A : Around} {env : Env} {lay : Nat → Option Place} {Sys : Addr → Prop} {base : Heap} {st : St} {s : Shared}

theorem se_list {es : Es} {xs : List Expr} {pos : Pos} (F : Fx G d c A env lay Sys base st s) (h : SEs G d c es xs) : Snd G.prog G.w A (NN st.H Sys) s true (eval (.List xs pos) env) (WE (G.cx d) (.list es) st) := by
  intro Q X K E hW hK hX
  simp only [we_0, we_1, we_2, we_3, we_4, we_5, we_6, we_7, we_8, we_9, we_10, we_11, we_12, we_13, we_14, we_15, we_16, we_17, we_18, we_19, we_20, we_21, we_22, we_23, we_24, we_25, we_26, we_27, we_28, we_29, we_30, we_31, we_32, we_33, we_34, we_35] at hW
  refine wpAny_List (h.2 F pos _ X _ E hW (fun vs vals s₁ h₁ r₁ k₁ => ?_) hX)
  have F₁ := F.keeps k₁
  have hl := r₁.length
  refine ⟨by rw [← hl]; exact h₁.1, hK _ _ _ h₁.2 (new_lst F₁.sim.objs F₁.sim.live (by simpa using r₁) (by simpa [← hl] using h₁.1)) (k₁.trans (Kp.ofH (HK.push _ _))) fun _ => ?_⟩
  exact (Frsh.mk (s := s₁) (s' := { s₁ with heap := s₁.heap.push { cls := .type "list", data := .seq vals.toArray } }) (fresh_size _) (by simpa using r₁) (HK.push _ _) (IsL.new _ _) (by simpa [← hl] using h₁.1)).before k₁
theorem se_tup {es : Es} {xs : List Expr} {k : Nat} {pos : Pos} (F : Fx G d c A env lay Sys base st s) (h : SEs G d c es xs) : Snd G.prog G.w A (NN st.H Sys) s false (eval (.Tuple xs k pos) env) (WE (G.cx d) (.tup es) st) := by
  intro Q X K E hW hK hX
  simp only [we_0, we_1, we_2, we_3, we_4, we_5, we_6, we_7, we_8, we_9, we_10, we_11, we_12, we_13, we_14, we_15, we_16, we_17, we_18, we_19, we_20, we_21, we_22, we_23, we_24, we_25, we_26, we_27, we_28, we_29, we_30, we_31, we_32, we_33, we_34, we_35] at hW
  refine wpAny_Tuple (h.2 F pos _ X _ E hW (fun vs vals s₁ h₁ r₁ k₁ => ?_) hX)
  have F₁ := F.keeps k₁
  have hl := r₁.length
  exact ⟨by rw [← hl]; exact h₁.1, hK _ _ _ h₁.2 (new_tup F₁.sim.objs F₁.sim.live (by simpa using r₁) (by simpa [← hl] using h₁.1)) (k₁.trans (Kp.ofH (HK.push _ _))) nofun⟩

theorem se_sub {a i : E} {y z : Expr} {pos : Pos} (F : Fx G d c A env lay Sys base st s) (ha : SE G d c a y) (hi : SE G d c i z) (hp : plainX z = true) :
    Snd G.prog G.w A (NN st.H Sys) s false (eval (.Subscript y z pos) env) (WE (G.cx d) (.sub a i) st) := by
  intro Q X K E hW hK hX
  simp only [we_0, we_1, we_2, we_3, we_4, we_5, we_6, we_7, we_8, we_9, we_10, we_11, we_12, we_13, we_14, we_15, we_16, we_17, we_18, we_19, we_20, we_21, we_22, we_23, we_24, we_25, we_26, we_27, we_28, we_29, we_30, we_31, we_32, we_33, we_34, we_35] at hW
  refine PyProof.Rows.Subscript_ ((ha F).weak _ X _ E hW (fun u va s₁ h₁ r₁ k₁ _ => ?_) hX)
  refine (hi (F.keeps k₁)).weak _ X _ E h₁ (fun v vb s₂ h₂ r₂ k₂ _ => ?_) fun e s' q => hX e s' (Rz.trans k₁ q)
  exact prim_sub ((F.keeps k₁).keeps k₂).rm rfl ((F.keeps k₁).keeps k₂).sim.objs hp h₂ (r₁.keeps k₂.hk) r₂ fun r val s' q rv k => hK r val s' q rv ((k₁.trans k₂).trans k) nofun

theorem ev_call_b {n : String} {y : Str} {p pos : Pos} {z : Expr} {xs : List Expr} {es : Es} {Q : List V → Prop} {X : String → Prop} {K E : Value → Shared → Prop} (F : Fx G d c A env lay Sys base st s) (hg : isGlob c y n = true) (hn : n ∈ bnames)
    (hv : bval n = .builtin n) (h : SEs G d c es (z :: xs)) (hW : WEs (G.cx d) es st Q X)
    (hK : ∀ vs vals s', Q vs → RVs (NN st.H Sys) s'.heap vs vals → Kp s s' → wpAny (model G.prog G.w) A (call (.builtin n) vals) K E s') (hX : ∀ e s', Rz s X e s' → E e s') :
    wpAny (model G.prog G.w) A (eval (.Call (.Name y p) (z :: xs) [] pos) env) K E s := by
  rw [arm_eval_Call_Name']
  refine wpAny_bind (ld_bltn F hg hn ?_)
  rw [hv]
  refine Calls.callWith_builtin (star_plain pos env _ h.1) ?_
  have e : backTo pos (starEach (z :: xs) env) = (false, eval z env) :: backTo pos (starEach xs env) := by
    have := h.1
    simp only [List.all_cons, Bool.and_eq_true] at this
    rw [starEach_cons this.1]; rfl
  have hs := h.2 F pos Q X (fun vals s' => wpAny (model G.prog G.w) A (call (.builtin n) vals) K E s') E hW (fun vs vals s' q r k => hK vs vals s' q r k) hX
  rw [e] at hs ⊢
  exact Calls.evalArgs_plain hs
theorem ev_call_t {n : String} {y : Str} {p pos : Pos} {z : Expr} {xs : List Expr} {es : Es} {Q : List V → Prop} {X : String → Prop} {K E : Value → Shared → Prop} (F : Fx G d c A env lay Sys base st s) (hg : isGlob c y n = true) (hn : n ∈ bnames)
    (hv : bval n = .type n) (h : SEs G d c es (z :: xs)) (hW : WEs (G.cx d) es st Q X)
    (hK : ∀ vs vals s', Q vs → RVs (NN st.H Sys) s'.heap vs vals → Kp s s' → wpAny (model G.prog G.w) A (call (.type n) vals) K E s') (hX : ∀ e s', Rz s X e s' → E e s') :
    wpAny (model G.prog G.w) A (eval (.Call (.Name y p) (z :: xs) [] pos) env) K E s := by
  rw [arm_eval_Call_Name']
  refine wpAny_bind (ld_bltn F hg hn ?_)
  rw [hv]
  refine callWith_type (star_plain pos env _ h.1) ?_
  have e : backTo pos (starEach (z :: xs) env) = (false, eval z env) :: backTo pos (starEach xs env) := by
    have := h.1
    simp only [List.all_cons, Bool.and_eq_true] at this
    rw [starEach_cons this.1]; rfl
  have hs := h.2 F pos Q X (fun vals s' => wpAny (model G.prog G.w) A (call (.type n) vals) K E s') E hW (fun vs vals s' q r k => hK vs vals s' q r k) hX
  rw [e] at hs ⊢
  exact Calls.evalArgs_plain hs

theorem se_len {a : E} {y : Str} {z : Expr} {p pos : Pos} (F : Fx G d c A env lay Sys base st s) (hg : isGlob c y "len" = true) (hz : noStar z = true) (ha : SE G d c a z) :
    Snd G.prog G.w A (NN st.H Sys) s false (eval (.Call (.Name y p) [z] [] pos) env) (WE (G.cx d) (.len a) st) := by
  intro Q X K E hW hK hX
  simp only [we_0, we_1, we_2, we_3, we_4, we_5, we_6, we_7, we_8, we_9, we_10, we_11, we_12, we_13, we_14, we_15, we_16, we_17, we_18, we_19, we_20, we_21, we_22, we_23, we_24, we_25, we_26, we_27, we_28, we_29, we_30, we_31, we_32, we_33, we_34, we_35] at hW
  refine ev_call_b (es := .cons a .nil) (X := X) (Q := fun vs => ∃ u, vs = [u] ∧ match sizeV st.H u with | some n => Q (.int n) | none => False) F hg (by decide) rfl (ses_cons hz ha ses_nil) ?_ ?_ hX
  · simp only [wes_0, wes_1, List.cons.injEq, and_true, exists_eq_left']; exact hW
  · rintro vs vals s₁ ⟨u, rfl, h₁⟩ r k
    cases r with
    | cons r1 r2 =>
      cases r2
      split at h₁
      · rename_i n hn
        exact prim_len (F.keeps k).sim.objs hn r1 fun t s' k' => hK _ _ _ h₁ (.int _ _) (k.trans k') nofun
      · exact h₁.elim

theorem se_isi {a : E} {t : Ty} {y u : Str} {z : Expr} {p p' pos : Pos} (F : Fx G d c A env lay Sys base st s) (hg : isGlob c y "isinstance" = true) (hz : noStar z = true) (ha : SE G d c a z) (ht : isGlob c u (tyName t) = true) (htn : tyName t ∈ bnames) (htv : bval (tyName t) = .type (tyName t)) :
    Snd G.prog G.w A (NN st.H Sys) s false (eval (.Call (.Name y p) [z, .Name u p'] [] pos) env) (WE (G.cx d) (.isinst a t) st) := by
  intro Q X K E hW hK hX
  simp only [we_0, we_1, we_2, we_3, we_4, we_5, we_6, we_7, we_8, we_9, we_10, we_11, we_12, we_13, we_14, we_15, we_16, we_17, we_18, we_19, we_20, we_21, we_22, we_23, we_24, we_25, we_26, we_27, we_28, we_29, we_30, we_31, we_32, we_33, we_34, we_35] at hW
  rw [arm_eval_Call_Name']
  refine wpAny_bind (ld_bltn F hg (by decide) ?_)
  show wpAny _ _ (callWith pos (.builtin "isinstance") [] _ _) _ _ _
  refine Calls.callWith_builtin (star_plain pos env [z, .Name u p'] (by rw [List.all_cons, hz]; rfl)) ?_
  have e : backTo pos (starEach [z, .Name u p'] env) = (false, eval z env) :: [(false, eval (.Name u p') env)] := by
    rw [starEach_cons hz]; rfl
  rw [e]
  refine Calls.evalArgs_plain (Calls.spliced_cons ((ha F).weak _ X _ E hW (fun v va s₁ h₁ r₁ k₁ _ => ?_) hX))
  refine Calls.spliced_cons (ld_bltn (F.keeps k₁) ht htn (Calls.spliced_nil ?_))
  rw [htv]
  split at h₁
  · rename_i b hb
    exact prim_isi (F.keeps k₁).sim.objs hb r₁ fun s' k' => hK _ _ _ h₁ (.bool _) (k₁.trans k') nofun
  · exact h₁.elim

/-- a test -/
noncomputable abbrev ST (G : PG) (d : Nat) (c : Sc) (e : E) (x : Expr) : Prop :=
  ∀ {A : Around} {env : Env} {lay : Nat → Option Place} {Sys : Addr → Prop} {base : Heap} {st : St} {s : Shared}, Fx G d c A env lay Sys base st s →
    ∀ (Q : Bool → Prop) (X : String → Prop) (K : Bool → Shared → Prop) (E : Value → Shared → Prop), WE (G.cx d) e st (fun u => match truthV st.H u with
      | some b => Q b
      | none => False) X → (∀ b s', Q b → Kp s s' → K b s') → (∀ e s', Rz s X e s' → E e s') → wpAny (model G.prog G.w) A (isTrue x env (eval x env)) K E s

theorem st_of {e : E} {x : Expr} (he : SE G d c e x) (hx : ∀ (env : Env) (w : Sem Value), isTrue x env w = (do let v ← w; standAt x.pos; holding [v] (truthy v))) : ST G d c e x := by
  intro A env lay Sys base st s F Q X K E hW hK hX
  refine wpAny_isTrue_value ((he F).weak _ X _ E hW (fun u va s₁ h₁ r₁ k₁ _ => ?_) hX) (hx _ _)
  split at h₁
  · rename_i b hb
    obtain rfl := truth_bool r₁ hb
    exact wpAny_truthy_bool (hK b s₁ h₁ k₁)
  · exact h₁.elim

theorem WE_cg {C : Cx} {e : E} {st : St} {Q Q' : V → Prop} {X : String → Prop} (hW : WE C e st Q X) (h : ∀ v, Q v = Q' v) : WE C e st Q' X := by
  have : Q = Q' := funext h
  subst this; exact hW

theorem st_not {a : E} {y : Expr} {pos : Pos} (ha : ST G d c a y) : ST G d c (.not a) (.UnaryOp .Not y pos) := by
  intro A env lay Sys base st s F Q X K E hW hK hX
  simp only [we_0, we_1, we_2, we_3, we_4, we_5, we_6, we_7, we_8, we_9, we_10, we_11, we_12, we_13, we_14, we_15, we_16, we_17, we_18, we_19, we_20, we_21, we_22, we_23, we_24, we_25, we_26, we_27, we_28, we_29, we_30, we_31, we_32, we_33, we_34, we_35] at hW
  refine wpAny_isTrue_Not (ha F (fun b => Q (!b)) X _ E ?_ (fun b s' q k => hK _ s' q k) hX)
  refine WE_cg hW fun u => ?_
  cases truthV st.H u <;> rfl

theorem se_ite {t a b : E} {y z u : Expr} {pos : Pos} (F : Fx G d c A env lay Sys base st s) (ht : ST G d c t y) (ha : SE G d c a z) (hb : SE G d c b u) :
    Snd G.prog G.w A (NN st.H Sys) s false (eval (.IfExp y z u pos) env) (WE (G.cx d) (.ite t a b) st) := by
  intro Q X K E hW hK hX
  simp only [we_0, we_1, we_2, we_3, we_4, we_5, we_6, we_7, we_8, we_9, we_10, we_11, we_12, we_13, we_14, we_15, we_16, we_17, we_18, we_19, we_20, we_21, we_22, we_23, we_24, we_25, we_26, we_27, we_28, we_29, we_30, we_31, we_32, we_33, we_34, we_35] at hW
  refine wpAny_IfExp (ht F (fun r => if r then WE (G.cx d) a st Q X else WE (G.cx d) b st Q X) X _ E ?_ (fun r s₁ q k => ?_) hX)
  · refine WE_cg hW fun u => ?_
    cases truthV st.H u with
    | none => rfl
    | some r => cases r <;> rfl
  · cases r
    · simp only [Bool.false_eq_true, if_false] at q ⊢
      exact (hb (F.keeps k)).weak _ X _ E q (fun v val s' q' r' k' _ => hK v val s' q' r' (k.trans k') nofun) fun e s' q' => hX e s' (Rz.trans k q')
    · simp only [if_true] at q ⊢
      exact (ha (F.keeps k)).weak _ X _ E q (fun v val s' q' r' k' _ => hK v val s' q' r' (k.trans k') nofun) fun e s' q' => hX e s' (Rz.trans k q')

/-- BoolOps of more than two -/
theorem wpAny_AndN {M : Model} {E : Value → Shared → Prop} {x y : Expr} {r : List Expr} {pos : Pos} {Q : Value → Shared → Prop}
    (h : wpAny M A (eval x env) (fun v s₁ => wpAny M A (truthy v) (fun t s₂ => if t then wpAny M A (eval (.BoolOp .And (y :: r) pos) env) Q E s₂ else Q v s₂) E s₁) E s) :
    wpAny M A (eval (.BoolOp .And (x :: y :: r) pos) env) Q E s := by
  show wpAny M A (do
    let v ← eval x env
    standAt pos
    let t ← holding [v] (truthy v)
    match BoolOp.And, t with
    | .And, false | .Or, true => pure v
    | _, _ => boolOp pos .And (evalEach (y :: r) env)) Q E s
  refine wpAny_bind (wpAny_mono h (fun v s₁ h₁ => wpAny_bind (wpAny_standAt (wpAny_bind (wpAny_holding (wpAny_mono h₁ (fun t s₂ h₂ => ?_) fun _ _ x => x))))) fun _ _ x => x)
  cases t with
  | false => exact wpAny_pure h₂
  | true => exact h₂
theorem wpAny_OrN {M : Model} {E : Value → Shared → Prop} {x y : Expr} {r : List Expr} {pos : Pos} {Q : Value → Shared → Prop}
    (h : wpAny M A (eval x env) (fun v s₁ => wpAny M A (truthy v) (fun t s₂ => if t then Q v s₂ else wpAny M A (eval (.BoolOp .Or (y :: r) pos) env) Q E s₂) E s₁) E s) :
    wpAny M A (eval (.BoolOp .Or (x :: y :: r) pos) env) Q E s := by
  show wpAny M A (do
    let v ← eval x env
    standAt pos
    let t ← holding [v] (truthy v)
    match BoolOp.Or, t with
    | .And, false | .Or, true => pure v
    | _, _ => boolOp pos .Or (evalEach (y :: r) env)) Q E s
  refine wpAny_bind (wpAny_mono h (fun v s₁ h₁ => wpAny_bind (wpAny_standAt (wpAny_bind (wpAny_holding (wpAny_mono h₁ (fun t s₂ h₂ => ?_) fun _ _ x => x))))) fun _ _ x => x)
  cases t with
  | false => exact h₂
  | true => exact wpAny_pure h₂
theorem se_andN {a b : E} {x y : Expr} {r : List Expr} {pos : Pos} (F : Fx G d c A env lay Sys base st s) (ha : SE G d c a x) (hb : SE G d c b (.BoolOp .And (y :: r) pos)) :
    Snd G.prog G.w A (NN st.H Sys) s false (eval (.BoolOp .And (x :: y :: r) pos) env) (WE (G.cx d) (.and a b) st) := by
  intro Q X K E hW hK hX
  simp only [we_0, we_1, we_2, we_3, we_4, we_5, we_6, we_7, we_8, we_9, we_10, we_11, we_12, we_13, we_14, we_15, we_16, we_17, we_18, we_19, we_20, we_21, we_22, we_23, we_24, we_25, we_26, we_27, we_28, we_29, we_30, we_31, we_32, we_33, we_34, we_35] at hW
  refine wpAny_AndN ((ha F).weak _ X _ E hW (fun u va s₁ h₁ r₁ k₁ _ => ?_) hX)
  split at h₁
  · rename_i hb'
    obtain rfl := truth_bool r₁ hb'
    refine wpAny_truthy_bool ?_
    rw [if_pos rfl]
    exact (hb (F.keeps k₁)).weak _ X _ E h₁ (fun v val s' q r k _ => hK v val s' q r (k₁.trans k) nofun) fun e s' q => hX e s' (Rz.trans k₁ q)
  · rename_i hb'
    obtain rfl := truth_bool r₁ hb'
    refine wpAny_truthy_bool ?_
    rw [if_neg (by simp)]
    exact hK _ _ _ h₁ r₁ k₁ nofun
  · exact h₁.elim
theorem se_orN {a b : E} {x y : Expr} {r : List Expr} {pos : Pos} (F : Fx G d c A env lay Sys base st s) (ha : SE G d c a x) (hb : SE G d c b (.BoolOp .Or (y :: r) pos)) :
    Snd G.prog G.w A (NN st.H Sys) s false (eval (.BoolOp .Or (x :: y :: r) pos) env) (WE (G.cx d) (.or a b) st) := by
  intro Q X K E hW hK hX
  simp only [we_0, we_1, we_2, we_3, we_4, we_5, we_6, we_7, we_8, we_9, we_10, we_11, we_12, we_13, we_14, we_15, we_16, we_17, we_18, we_19, we_20, we_21, we_22, we_23, we_24, we_25, we_26, we_27, we_28, we_29, we_30, we_31, we_32, we_33, we_34, we_35] at hW
  refine wpAny_OrN ((ha F).weak _ X _ E hW (fun u va s₁ h₁ r₁ k₁ _ => ?_) hX)
  split at h₁
  · rename_i hb'
    obtain rfl := truth_bool r₁ hb'
    refine wpAny_truthy_bool ?_
    rw [if_pos rfl]
    exact hK _ _ _ h₁ r₁ k₁ nofun
  · rename_i hb'
    obtain rfl := truth_bool r₁ hb'
    refine wpAny_truthy_bool ?_
    rw [if_neg (by simp)]
    exact (hb (F.keeps k₁)).weak _ X _ E h₁ (fun v val s' q r k _ => hK v val s' q r (k₁.trans k) nofun) fun e s' q => hX e s' (Rz.trans k₁ q)
  · exact h₁.elim

theorem st_and {a b : E} {x y : Expr} {r : List Expr} {pos p' : Pos} (ha : ST G d c a x) (hb : ST G d c b (.BoolOp .And (y :: r) p')) : ST G d c (.and a b) (.BoolOp .And (x :: y :: r) pos) := by
  intro A env lay Sys base st s F Q X K E hW hK hX
  simp only [we_0, we_1, we_2, we_3, we_4, we_5, we_6, we_7, we_8, we_9, we_10, we_11, we_12, we_13, we_14, we_15, we_16, we_17, we_18, we_19, we_20, we_21, we_22, we_23, we_24, we_25, we_26, we_27, we_28, we_29, we_30, we_31, we_32, we_33, we_34, we_35] at hW
  have hW := WE_cg (Q' := fun u => match truthV st.H u with
      | some r => if r then WE (G.cx d) b st (fun u => match truthV st.H u with
        | some b => Q b
        | none => False) X else Q false
      | none => False) hW fun u => by
    cases e : truthV st.H u with
    | none => rfl
    | some r => cases r <;> simp only [e] <;> rfl
  refine wpAny_isTrue_BoolOp (wpAny_allTrue_And_cons (ha F _ X _ E hW (fun t s₁ q k => ?_) hX))
  cases t
  · simp only [Bool.false_eq_true, if_false] at q ⊢; exact hK false s₁ q k
  · simp only [if_true] at q ⊢
    have := hb (F.keeps k) Q X K E q (fun b s' q' k' => hK b s' q' (k.trans k')) fun e s' q' => hX e s' (Rz.trans k q')
    rw [arm_isTrue_BoolOp] at this
    exact this
theorem st_and2 {a b : E} {x y : Expr} {pos : Pos} (ha : ST G d c a x) (hb : ST G d c b y) : ST G d c (.and a b) (.BoolOp .And [x, y] pos) := by
  intro A env lay Sys base st s F Q X K E hW hK hX
  simp only [we_0, we_1, we_2, we_3, we_4, we_5, we_6, we_7, we_8, we_9, we_10, we_11, we_12, we_13, we_14, we_15, we_16, we_17, we_18, we_19, we_20, we_21, we_22, we_23, we_24, we_25, we_26, we_27, we_28, we_29, we_30, we_31, we_32, we_33, we_34, we_35] at hW
  have hW := WE_cg (Q' := fun u => match truthV st.H u with
      | some r => if r then WE (G.cx d) b st (fun u => match truthV st.H u with
        | some b => Q b
        | none => False) X else Q false
      | none => False) hW fun u => by
    cases e : truthV st.H u with
    | none => rfl
    | some r => cases r <;> simp only [e] <;> rfl
  refine wpAny_isTrue_BoolOp (wpAny_allTrue_And_cons (ha F _ X _ E hW (fun t s₁ q k => ?_) hX))
  cases t
  · simp only [Bool.false_eq_true, if_false] at q ⊢; exact hK false s₁ q k
  · simp only [if_true] at q ⊢
    refine wpAny_allTrue_And_cons (hb (F.keeps k) Q X _ E q (fun b s' q' k' => ?_) fun e s' q' => hX e s' (Rz.trans k q'))
    cases b
    · exact hK false s' q' (k.trans k')
    · exact wpAny_allTrue_And_nil (hK true s' q' (k.trans k'))
theorem st_or {a b : E} {x y : Expr} {r : List Expr} {pos p' : Pos} (ha : ST G d c a x) (hb : ST G d c b (.BoolOp .Or (y :: r) p')) : ST G d c (.or a b) (.BoolOp .Or (x :: y :: r) pos) := by
  intro A env lay Sys base st s F Q X K E hW hK hX
  simp only [we_0, we_1, we_2, we_3, we_4, we_5, we_6, we_7, we_8, we_9, we_10, we_11, we_12, we_13, we_14, we_15, we_16, we_17, we_18, we_19, we_20, we_21, we_22, we_23, we_24, we_25, we_26, we_27, we_28, we_29, we_30, we_31, we_32, we_33, we_34, we_35] at hW
  have hW := WE_cg (Q' := fun u => match truthV st.H u with
      | some r => if r then Q true else WE (G.cx d) b st (fun u => match truthV st.H u with
        | some b => Q b
        | none => False) X
      | none => False) hW fun u => by
    cases e : truthV st.H u with
    | none => rfl
    | some r => cases r <;> simp only [e] <;> rfl
  refine wpAny_isTrue_BoolOp (wpAny_allTrue_Or_cons (ha F _ X _ E hW (fun t s₁ q k => ?_) hX))
  cases t
  · simp only [Bool.false_eq_true, if_false] at q ⊢
    have := hb (F.keeps k) Q X K E q (fun b s' q' k' => hK b s' q' (k.trans k')) fun e s' q' => hX e s' (Rz.trans k q')
    rw [arm_isTrue_BoolOp] at this
    exact this
  · simp only [if_true] at q ⊢; exact hK true s₁ q k
theorem st_or2 {a b : E} {x y : Expr} {pos : Pos} (ha : ST G d c a x) (hb : ST G d c b y) : ST G d c (.or a b) (.BoolOp .Or [x, y] pos) := by
  intro A env lay Sys base st s F Q X K E hW hK hX
  simp only [we_0, we_1, we_2, we_3, we_4, we_5, we_6, we_7, we_8, we_9, we_10, we_11, we_12, we_13, we_14, we_15, we_16, we_17, we_18, we_19, we_20, we_21, we_22, we_23, we_24, we_25, we_26, we_27, we_28, we_29, we_30, we_31, we_32, we_33, we_34, we_35] at hW
  have hW := WE_cg (Q' := fun u => match truthV st.H u with
      | some r => if r then Q true else WE (G.cx d) b st (fun u => match truthV st.H u with
        | some b => Q b
        | none => False) X
      | none => False) hW fun u => by
    cases e : truthV st.H u with
    | none => rfl
    | some r => cases r <;> simp only [e] <;> rfl
  refine wpAny_isTrue_BoolOp (wpAny_allTrue_Or_cons (ha F _ X _ E hW (fun t s₁ q k => ?_) hX))
  cases t
  · simp only [Bool.false_eq_true, if_false] at q ⊢
    refine wpAny_allTrue_Or_cons (hb (F.keeps k) Q X _ E q (fun b s' q' k' => ?_) fun e s' q' => hX e s' (Rz.trans k q'))
    cases b
    · exact wpAny_allTrue_Or_nil (hK false s' q' (k.trans k'))
    · exact hK true s' q' (k.trans k')
  · simp only [if_true] at q ⊢; exact hK true s₁ q k

theorem cmp_eval {l : Expr} {ops : List CmpOp} {rs : List Expr} {pos : Pos} (hm : lastMarks ops rs = false) : eval (.Compare l ops rs pos) env = (do compareChain pos (← eval l env) ops (evalEach rs env)) := by
  show (do compareChain pos (← eval l env) ops (markedEach ops rs (evalEach rs env))) = _
  rw [PyProof.Rows.markedEach_of_false _ _ _ hm]
theorem cmp_test {l : Expr} {ops : List CmpOp} {rs : List Expr} {pos : Pos} {w : Sem Value} (hm : lastMarks ops rs = false) : isTrue (.Compare l ops rs pos) env w = (do testChain pos (← eval l env) ops (evalEach rs env)) := by
  show (do testChain pos (← eval l env) ops (markedEach ops rs (evalEach rs env))) = _
  rw [PyProof.Rows.markedEach_of_false _ _ _ hm]

theorem se_cmp {a : E} {ch : Ch} {l : Expr} {ops : List CmpOp} {rs : List Expr} {pos : Pos} (F : Fx G d c A env lay Sys base st s) (ha : SE G d c a l) (hc : SCh G d c ch ops rs) (hm : lastMarks ops rs = false) :
    Snd G.prog G.w A (NN st.H Sys) s false (eval (.Compare l ops rs pos) env) (WE (G.cx d) (.cmp a ch) st) := by
  intro Q X K E hW hK hX
  simp only [we_0, we_1, we_2, we_3, we_4, we_5, we_6, we_7, we_8, we_9, we_10, we_11, we_12, we_13, we_14, we_15, we_16, we_17, we_18, we_19, we_20, we_21, we_22, we_23, we_24, we_25, we_26, we_27, we_28, we_29, we_30, we_31, we_32, we_33, we_34, we_35] at hW
  rw [cmp_eval hm]
  refine wpAny_bind ((ha F).weak _ X _ E hW (fun u va s₁ h₁ r₁ k₁ _ => ?_) hX)
  exact (hc (F.keeps k₁) u va pos r₁ _ X h₁).1 K E (fun r s' q k => hK _ _ _ q (.bool _) (k₁.trans k) nofun) fun e s' q => hX e s' (Rz.trans k₁ q)
theorem st_cmp {a : E} {ch : Ch} {l : Expr} {ops : List CmpOp} {rs : List Expr} {pos : Pos} (ha : SE G d c a l) (hc : SCh G d c ch ops rs) (hm : lastMarks ops rs = false) : ST G d c (.cmp a ch) (.Compare l ops rs pos) := by
  intro A env lay Sys base st s F Q X K E hW hK hX
  simp only [we_0, we_1, we_2, we_3, we_4, we_5, we_6, we_7, we_8, we_9, we_10, we_11, we_12, we_13, we_14, we_15, we_16, we_17, we_18, we_19, we_20, we_21, we_22, we_23, we_24, we_25, we_26, we_27, we_28, we_29, we_30, we_31, we_32, we_33, we_34, we_35] at hW
  rw [cmp_test hm]
  refine wpAny_bind ((ha F).weak _ X _ E hW (fun u va s₁ h₁ r₁ k₁ _ => ?_) hX)
  exact (hc (F.keeps k₁) u va pos r₁ _ X h₁).2 K E (fun r s' q k => hK _ _ q (k₁.trans k)) fun e s' q => hX e s' (Rz.trans k₁ q)
end

end Mine
end

section
set_option autoImplicit false
namespace Mine
open PySem

/-- an iterator that hands out so many things -/
structure WK (prog : Program) (w : World) (A : Around) (I : Addr) (fp wr : List Addr) (nw : Bool) (n : Nat) (P Mi : Nat → Value → Heap → Prop) (Si : Nat → Heap → Prop) : Prop where
  sub : ∀ b ∈ wr, b ∈ fp
  ex : ∀ i h, Si i h → ∀ b ∈ wr, h.get? b ≠ none
  frame : ∀ i h h', Si i h → (∀ b ∈ fp, ∀ o, h.get? b = some o → h'.get? b = some o) → Si i h'
  item : ∀ i (s : Shared) (Q : Option Value → Shared → Prop) (E : Value → Shared → Prop), i < n → Si i s.heap →
    (∀ v h' tk, Mi i v h' → (nw = true → ∀ t, v = .ref t → s.heap.get? t = none) → (∀ b o, b ∉ wr → s.heap.get? b = some o → h'.get? b = some o) → Q (some v) { s with heap := h', toks := tk }) → wpAny (model prog w) A (pyNext (.ref I)) Q E s
  done : ∀ (s : Shared) (Q : Option Value → Shared → Prop) (E : Value → Shared → Prop), Si n s.heap →
    (∀ h' tk, (∀ b o, b ∉ wr → s.heap.get? b = some o → h'.get? b = some o) → Q none { s with heap := h', toks := tk }) → wpAny (model prog w) A (pyNext (.ref I)) Q E s
  own : ∀ i (s : Shared) (v : Value) (t : Expr) (Q : Unit → Shared → Prop) (E : Value → Shared → Prop), Mi i v s.heap → (nw = true → isTupX t = true) →
    (∀ h', Si (i + 1) h' → P i v h' → (∀ b o, b ∉ wr → s.heap.get? b = some o → h'.get? b = some o) → Q () { s with heap := h' }) → wpAny (model prog w) A (letOwnedTupleGo t (.ref I) v) Q E s
  self : ∀ i (s : Shared) (Q : Value → Shared → Prop) (E : Value → Shared → Prop), Si i s.heap → Q (.ref I) s → wpAny (model prog w) A (pyIter (.ref I)) Q E s

theorem own_plain {prog : Program} {w : World} {A : Around} {I : Addr} {s : Shared} {v : Value} {t : Expr} {T : String} {Q : Unit → Shared → Prop} {E : Value → Shared → Prop} (hI : ∃ o, s.heap.get? I = some o ∧ o.cls = .type T)
    (hT : ["enumerate", "zip", "dict_itemiterator", "dict_reverseitemiterator", "odict_iterator", "itertools.zip_longest", "itertools.pairwise"].contains T = false) (h : Q () s) : wpAny (model prog w) A (letOwnedTupleGo t (.ref I) v) Q E s := by
  obtain ⟨o, ho, hc⟩ := hI
  have key : wpAny (model prog w) A (match (Value.ref I, v) with
    | (.ref r, .ref a) => (do
      let o ← load r
      match o.cls, o.data with
      | .type n, .fields vs =>
        if ["enumerate", "zip", "dict_itemiterator", "dict_reverseitemiterator", "odict_iterator", "itertools.zip_longest", "itertools.pairwise"].contains n && vs[0]? == some (rawInt a) then
          rule "for.unpacks-the-owned-tuple"
          updateField r 0 .none
      | _, _ => pure () : Sem Unit)
    | _ => pure ()) Q E s := by
    cases v with
    | ref a =>
      refine wpAny_bind (wpAny_load ho ?_)
      rw [hc]
      cases o.data <;> first
        | exact wpAny_pure h
        | (dsimp only; rw [if_neg (by rw [hT]; simp)]; exact wpAny_pure h)
    | _ => exact wpAny_pure h
  unfold letOwnedTupleGo
  cases t <;> first
    | exact wpAny_pure h
    | exact key

theorem WK.of {prog : Program} {w : World} {A : Around} {I : Addr} {fp : List Addr} {n : Nat} {P : Nat → Value → Prop} {Si : Nat → Heap → Prop} {T : String} (W : Walks prog w A I fp [I] n P Si)
    (hT : ["enumerate", "zip", "dict_itemiterator", "dict_reverseitemiterator", "odict_iterator", "itertools.zip_longest", "itertools.pairwise"].contains T = false) (hI : ∀ i h, Si i h → ∃ o, h.get? I = some o ∧ o.cls = .type T) :
    WK prog w A I fp [I] false n (fun i v _ => P i v) (fun i v h => P i v ∧ Si (i + 1) h) Si where
  sub := W.sub
  ex := fun i h hs b hb e => by
    obtain rfl := List.mem_singleton.mp hb
    obtain ⟨o, ho, _⟩ := hI i h hs
    rw [ho] at e; cases e
  frame := W.frame
  item := fun i s Q E hi hs hQ => W.item i s Q E hi hs fun v h' tk hp hs' hk => hQ v h' tk ⟨hp, hs'⟩ nofun hk
  done := W.done
  own := fun i s v t Q E hs _ hQ => own_plain (hI _ _ hs.2) hT (hQ s.heap hs.2 hs.1 fun _ _ _ e => e)
  self := W.self

/-- what the walk over an iterable gives -/
structure ItOk (G : PG) (A : Around) (H : AH) (Sys : Addr → Prop) (s s' : Shared) (vs : List V) (ds : List Nat) (I : Addr) (nw : Bool) : Prop where
  ex : ∃ (fp wr : List Addr) (P Mi : Nat → Value → Heap → Prop) (Si : Nat → Heap → Prop), WK G.prog G.w A I fp wr nw vs.length P Mi Si ∧ Si 0 s'.heap ∧ (∀ b ∈ wr, s.heap.get? b = none) ∧ (∀ b ∈ fp, ∃ o, s'.heap.get? b = some o) ∧
    (∀ b ∈ fp, b ∉ wr → (¬ NN H Sys b ∨ (b ∈ ds ∧ H b ≠ none))) ∧
    (∀ i v val h, vs[i]? = some v → P i val h → match nw with
      | false => RV (NN H (fun a => Sys a ∨ a ∈ wr)) s'.heap v val
      | true => ∃ t xs n ws, v = .tup ws ∧ val = .ref t ∧ IsT h t xs n ∧ xs.size ≤ sizeLine ∧ RVs (NN H (fun a => Sys a ∨ a ∈ wr)) s'.heap ws xs.toList)

noncomputable abbrev SI (G : PG) (d : Nat) (c : Sc) (it : It) (x : Expr) : Prop :=
  ∀ {A : Around} {env : Env} {lay : Nat → Option Place} {Sys : Addr → Prop} {base : Heap} {st : St} {s : Shared}, Fx G d c A env lay Sys base st s →
    ∀ (Q : List V → List Nat → Prop) (X : String → Prop) (K : Value → Shared → Prop) (E : Value → Shared → Prop), WI (G.cx d) it st Q X →
      (∀ vs ds I s', Q vs ds → Kp s s' → ItOk G A st.H Sys s s' vs ds I (isEZ it) → K (.ref I) s') → (∀ e s', Rz s X e s' → E e s') →
      wpAny (model G.prog G.w) A (eval x env) (fun v s₁ => wpAny (model G.prog G.w) A (pyIter v) K E s₁) E s

section
variable {G : PG} {d : Nat} {c : Sc} {A : Around} {env : Env} {lay : Nat → Option Place} {Sys : Addr → Prop} {base : Heap} {st : St} {s : Shared} {H : AH}

theorem NN.more {wr : List Addr} {b : Addr} (h : NN H (fun a => Sys a ∨ a ∈ wr) b) : NN H Sys b ∨ b ∈ wr := by
  rcases h with h | h | h
  · exact .inl (.inl h)
  · exact .inl (.inr h)
  · exact .inr h

/-- an item of a row that stands, behind a step of the walk -/
theorem item_rv {Sys : Addr → Prop} {I : Addr} {h₀ h₁ : Heap} {vs : List V} {xs : List Value} (r : RVs (NN H Sys) h₀ vs xs) (hI : h₀.get? I = none) (k : HK h₀ h₁) {i : Nat} {v : V} {val : Value} (hv : vs[i]? = some v) (hx : xs[i]? = some val) : RV (NN H (fun a => Sys a ∨ a ∈ [I])) h₁ v val := by
  obtain ⟨x, e, rx⟩ := r.get i hv
  rw [hx] at e; cases e
  refine rx.gen (fun b q => ?_) fun b o nb e => k b o e
  rcases NN.more q with q | q
  · exact .inl q
  · rw [List.mem_singleton.mp q]; exact .inr hI

theorem it_list {a : Addr} {xs : Array Value} {n : Nat} {vs : List V} {ds : List Nat} {K E : Value → Shared → Prop} (F : Fx G d c A env lay Sys base st s) (hl : IsL s.heap a xs n) (r : RVs (NN st.H Sys) s.heap vs xs.toList)
    (hd : ¬ NN st.H Sys a ∨ (a ∈ ds ∧ st.H a ≠ none)) (hK : ∀ I s', Kp s s' → ItOk G A st.H Sys s s' vs ds I false → K (.ref I) s') : wpAny (model G.prog G.w) A (pyIter (.ref a)) K E s := by
  refine wpAny_pyIter_list hl.isList (hK _ _ (Kp.ofH (HK.push _ _)) ⟨?_⟩)
  have hne : a ≠ s.heap.objs.size := Nat.ne_of_lt (Heap.lt_size hl)
  have hsz := r.size
  refine ⟨[s.heap.objs.size, a], [s.heap.objs.size], _, _, _, hsz ▸ WK.of (T := "list_iterator") (Walks.list F.rm.hnd s.heap.objs.size a hne xs) (by decide) (fun i h q => ⟨_, q.1.choose_spec.1, q.1.choose_spec.2.1⟩), ?_, ?_, ?_, ?_, ?_⟩
  · exact ⟨⟨_, Heap.get?_push_size _ rfl, rfl, rfl⟩, ⟨_, Heap.get?_push_of_some _ hl, rfl, _, rfl⟩⟩
  · intro b hb; rw [List.mem_singleton.mp hb]; exact fresh_size _
  · intro b hb
    simp only [List.mem_cons, List.not_mem_nil, or_false] at hb
    rcases hb with rfl | rfl
    · exact ⟨_, Heap.get?_push_size _ rfl⟩
    · exact ⟨_, Heap.get?_push_of_some _ hl⟩
  · intro b hb hw
    simp only [List.mem_cons, List.not_mem_nil, or_false] at hb hw
    rcases hb with rfl | rfl
    · exact absurd rfl hw
    · exact hd
  · intro i v val h hv hp
    exact item_rv r (fresh_size _) (HK.push _ _) hv (by simpa using hp)

theorem it_tup {a : Addr} {xs : Array Value} {n : Nat} {vs : List V} {ds : List Nat} {K E : Value → Shared → Prop} (F : Fx G d c A env lay Sys base st s) (hl : IsT s.heap a xs n) (r : RVs (NN st.H Sys) s.heap vs xs.toList)
    (hd : ¬ NN st.H Sys a ∨ (a ∈ ds ∧ st.H a ≠ none)) (hK : ∀ I s', Kp s s' → ItOk G A st.H Sys s s' vs ds I false → K (.ref I) s') : wpAny (model G.prog G.w) A (pyIter (.ref a)) K E s := by
  refine wpAny_pyIter_tuple (IsT.isTuple hl) (hK _ _ (Kp.ofH (HK.push _ _)) ⟨?_⟩)
  have hne : a ≠ s.heap.objs.size := Nat.ne_of_lt (Heap.lt_size hl)
  have hsz := r.size
  refine ⟨[s.heap.objs.size, a], [s.heap.objs.size], _, _, _, hsz ▸ WK.of (T := "tuple_iterator") (Walks.tuple F.rm.hnd s.heap.objs.size a hne xs) (by decide) (fun i h q => ⟨_, q.1.choose_spec.1, q.1.choose_spec.2.1⟩), ?_, ?_, ?_, ?_, ?_⟩
  · exact ⟨⟨_, Heap.get?_push_size _ rfl, rfl, rfl⟩, ⟨_, Heap.get?_push_of_some _ hl, rfl, _, rfl⟩⟩
  · intro b hb; rw [List.mem_singleton.mp hb]; exact fresh_size _
  · intro b hb
    simp only [List.mem_cons, List.not_mem_nil, or_false] at hb
    rcases hb with rfl | rfl
    · exact ⟨_, Heap.get?_push_size _ rfl⟩
    · exact ⟨_, Heap.get?_push_of_some _ hl⟩
  · intro b hb hw
    simp only [List.mem_cons, List.not_mem_nil, or_false] at hb hw
    rcases hb with rfl | rfl
    · exact absurd rfl hw
    · exact hd
  · intro i v val h hv hp
    exact item_rv r (fresh_size _) (HK.push _ _) hv (by simpa using hp)

theorem it_str {x : Str} {t : Tok} {ds : List Nat} {K E : Value → Shared → Prop} (F : Fx G d c A env lay Sys base st s) (hx : SOk x)
    (hK : ∀ I s', Kp s s' → ItOk G A st.H Sys s s' (signsOf x) ds I false → K (.ref I) s') : wpAny (model G.prog G.w) A (pyIter (.str x t)) K E s := by
  have hsz : (signsOf x).length = x.cps.size := by simp [signsOf]
  have sign : ∀ (Sy : Addr → Prop) (h : Heap) (i : Nat) (v : V) (val : Value), (signsOf x)[i]? = some v → SignAt x i val → RV (NN st.H Sy) h v val := by
    rintro Sy h i v val hv ⟨c, u, hc, rfl⟩
    have hc' : x.cps.toList[i]? = some c := by rw [Array.getElem?_toList]; exact hc
    simp only [signsOf, List.getElem?_map, hc', Option.map_some, Option.some.injEq] at hv
    subst hv
    exact .str _ _ (hx.one (List.mem_of_getElem? hc'))
  cases ha : x.cps.all (· < 128)
  · refine wpAny_pyIter_wide ha (hK _ _ (Kp.ofH (HK.push _ _)) ⟨?_⟩)
    refine ⟨[s.heap.objs.size], [s.heap.objs.size], _, _, _, hsz ▸ WK.of (T := "str_iterator") (Walks.strWide F.rm.hnd s.heap.objs.size x t) (by decide) (fun i h q => ⟨_, q.choose_spec.1, q.choose_spec.2.1⟩), ⟨_, Heap.get?_push_size _ rfl, rfl, rfl⟩, ?_, ?_, ?_, ?_⟩
    · intro b hb; rw [List.mem_singleton.mp hb]; exact fresh_size _
    · intro b hb; rw [List.mem_singleton.mp hb]; exact ⟨_, Heap.get?_push_size _ rfl⟩
    · intro b hb hw; exact absurd hb hw
    · intro i v val h hv hp; exact sign _ _ _ _ _ hv hp
  · refine wpAny_pyIter_ascii ha (hK _ _ (Kp.ofH (HK.push _ _)) ⟨?_⟩)
    refine ⟨[s.heap.objs.size], [s.heap.objs.size], _, _, _, hsz ▸ WK.of (T := "str_ascii_iterator") (Walks.strAscii F.rm.hnd s.heap.objs.size x t) (by decide) (fun i h q => ⟨_, q.choose_spec.1, q.choose_spec.2.1⟩), ⟨_, Heap.get?_push_size _ rfl, rfl, rfl⟩, ?_, ?_, ?_, ?_⟩
    · intro b hb; rw [List.mem_singleton.mp hb]; exact fresh_size _
    · intro b hb; rw [List.mem_singleton.mp hb]; exact ⟨_, Heap.get?_push_size _ rfl⟩
    · intro b hb hw; exact absurd hb hw
    · intro i v val h hv hp; exact sign _ _ _ _ _ hv hp

theorem ItOk.before {s₀ s₁ s₂ : Shared} {vs : List V} {ds : List Nat} {I : Addr} {nw : Bool} (k : Kp s₀ s₁) (x : ItOk G A H Sys s₁ s₂ vs ds I nw) : ItOk G A H Sys s₀ s₂ vs ds I nw := by
  obtain ⟨fp, wr, P, Mi, Si, h1, h2, h3, h4, h5, h6⟩ := x.ex
  exact ⟨fp, wr, P, Mi, Si, h1, h2, fun b hb => fresh_keeps k (h3 b hb), h4, h5, h6⟩

theorem si_seq {e : E} {x : Expr} (he : SE G d c e x) : SI G d c (.seq e) x := by
  intro A env lay Sys base st s F Q X K E hW hK hX
  simp only [wi_0, wi_1, wi_2, wi_3, wi_4, wi_5, wi_6, wi_7, rg1, rg2, rg3] at hW
  refine (he F).weak _ X _ E hW (fun v a s₁ h₁ r₁ k₁ _ => ?_) hX
  have F₁ := F.keeps k₁
  split at h₁
  · rename_i vs hv
    have fin : ∀ I s', Kp s₁ s' → ItOk G A st.H Sys s₁ s' vs (depsV v) I false → K (.ref I) s' := fun I s' k i => hK vs _ I s' h₁ (k₁.trans k) (i.before k₁)
    cases r₁ with
    | lst b1 b2 b3 b4 => simp [iv_none, iv_bool, iv_int, iv_str, iv_tup, iv_lst, iv_ref, iv_inst, iv_iref] at hv; subst hv; exact it_list F₁ b2 b4 (.inl b1) fin
    | tup b1 b2 b3 b4 => simp [iv_none, iv_bool, iv_int, iv_str, iv_tup, iv_lst, iv_ref, iv_inst, iv_iref] at hv; subst hv; exact it_tup F₁ b2 b4 (.inl b1) fin
    | str u t o => simp [iv_none, iv_bool, iv_int, iv_str, iv_tup, iv_lst, iv_ref, iv_inst, iv_iref] at hv; subst hv; exact it_str F₁ o fin
    | ref ad =>
      simp only [iv_none, iv_bool, iv_int, iv_str, iv_tup, iv_lst, iv_ref, iv_inst, iv_iref] at hv
      split at hv
      · rename_i ws hw
        cases hv
        cases F₁.sim.objs _ _ hw with
        | list b1 b2 b3 => exact it_list F₁ b1 b3 (.inr ⟨by simp [dv_none, dv_bool, dv_int, dv_str, dv_tup, dv_lst, dv_ref, dv_inst, dv_iref], by rw [hw]; simp⟩) fin
      · cases hv
    | _ => simp [iv_none, iv_bool, iv_int, iv_str, iv_tup, iv_lst, iv_ref, iv_inst, iv_iref] at hv
  · exact h₁.elim
end

end Mine
end

section
set_option autoImplicit false
namespace Mine
open PySem

section
variable {G : PG} {d : Nat} {c : Sc} {A : Around} {env : Env} {lay : Nat → Option Place} {Sys : Addr → Prop} {base : Heap} {st : St} {s : Shared} {H : AH}

theorem RVs.reverse {N : Addr → Prop} {h : Heap} : ∀ {vs : List V} {xs : List Value}, RVs N h vs xs → RVs N h vs.reverse xs.reverse
  | _, _, .nil => .nil
  | _, _, .cons a b => by simpa using b.reverse.append (.cons a .nil)

theorem rng1_inv {vs : List V} {P : Int → Prop} (h : rng1 vs P) : ∃ i, vs = [.int i] ∧ smallI i ∧ P i := by
  rcases vs with _ | ⟨a, _ | ⟨b, r⟩⟩
  · exact False.elim h
  · obtain ⟨i, rfl, h⟩ := intP_inv h
    exact ⟨_, rfl, h⟩
  · exact False.elim h
theorem upL_length (a b : Int) : (upL a b).length = (b - a).toNat := by simp [upL]
theorem upL_get {a b : Int} {i : Nat} {v : V} (h : (upL a b)[i]? = some v) : v = .int (a + i) := by
  simp only [upL, List.getElem?_map, Option.map_eq_some_iff] at h
  obtain ⟨k, hk, rfl⟩ := h
  have := List.getElem?_eq_some_iff.mp hk
  obtain ⟨h1, h2⟩ := this
  simp at h2; rw [h2]
theorem it_range {r : Addr} {a b e : Int} {t u v : Tok} {n : Nat} {vs : List V} {K E : Value → Shared → Prop} (F : Fx G d c A env lay Sys base st s) (hr : IsRange s.heap r a b e t u v) (hs : Builtin.Range.small a b e = true)
    (hn : Builtin.Range.rangeSize a b e = (n : Int)) (hvn : vs.length = n) (hv : ∀ (i : Nat) (v : V), vs[i]? = some v → v = V.int (a + i * e))
    (hK : ∀ I s', Kp s s' → ItOk G A st.H Sys s s' vs [] I false → K (.ref I) s') : wpAny (model G.prog G.w) A (pyIter (.ref r)) K E s := by
  refine wpAny_pyIter_range hr hs (hK _ _ (Kp.ofH (HK.push _ _)) ⟨?_⟩)
  refine ⟨[s.heap.objs.size], [s.heap.objs.size], _, _, _, hvn ▸ WK.of (T := "range_iterator") (Walks.range F.rm.hnd s.heap.objs.size a e n) (by decide) (fun i h q => ⟨_, q, rfl⟩), ?_, ?_, ?_, ?_, ?_⟩
  · show Heap.get? (Heap.push _ _) _ = _
    rw [hn]
    have := Heap.get?_push_size (o := { cls := .type "range_iterator", data := .fields #[rawInt a, rawInt (n : Int), rawInt e] }) s.heap rfl
    simpa [hvn] using this
  · intro b hb; rw [List.mem_singleton.mp hb]; exact fresh_size _
  · intro b hb; rw [List.mem_singleton.mp hb]; exact ⟨_, Heap.get?_push_size _ rfl⟩
  · intro b hb hw; exact absurd hb hw
  · rintro i v val h hv' ⟨tk, rfl⟩
    rw [hv i v hv']; exact .int _ _

theorem si_range1 {e : E} {y : Str} {p pos : Pos} {z : Expr} (hg : isGlob c y "range" = true) (hz : noStar z = true) (he : SE G d c e z) : SI G d c (.range1 e) (.Call (.Name y p) [z] [] pos) := by
  intro A env lay Sys base st s F Q X K E hW hK hX
  refine (ev_call_t (es := .cons e .nil) (X := X) (Q := fun vs => rng1 vs fun i => Q (upL 0 i) []) F hg (by decide) rfl (ses_cons hz he ses_nil) hW ?_ hX)
  · intro vs vals s₁ q r k
    obtain ⟨i, rfl, ⟨h1, h2⟩, h₁⟩ := rng1_inv q
    cases r with
    | cons r1 r2 =>
      cases r2; cases r1; rename_i tt
      refine call_range_1 ?_
      have k' := Kp.of (s := s₁) (t := s₁.toks + 1 + 1) (HK.push s₁.heap { cls := .type "range", data := .fields #[.int 0 s₁.toks, .int i tt, .int 1 (s₁.toks + 1)] })
      have F₁ := (F.keeps k).keeps k'
      refine it_range (n := i.toNat) F₁ (IsRange.new ..) (small_one (by decide) (by decide) h1 h2) ?_ (by rw [upL_length]; simp) (fun j v hv => by rw [upL_get hv]; simp) fun I s' k'' it => hK _ _ I s' h₁ ((k.trans k').trans k'') (it.before (k.trans k'))
      rw [rangeSize_one]; split <;> omega

end

end Mine
end

section
set_option autoImplicit false
namespace Mine
open PySem
section
variable {G : PG} {d : Nat} {c : Sc}
end
end Mine
end

section
set_option autoImplicit false
namespace Mine
open PySem

section
variable {prog : Program} {w : World} {A : Around} {E : Value → Shared → Prop} {s : Shared}

end
/-! enumerate -/
section
variable {G : PG} {d : Nat} {c : Sc}
end
end Mine
end

section
set_option autoImplicit false
namespace Mine
open PySem

section
variable {prog : Program} {w : World} {A : Around} {E : Value → Shared → Prop} {s : Shared} {b1 b2 : Bool} {l1 l2 : Addr} {xs ys : Array Value} {n1 n2 : Nat} {N : Addr} {k : Nat}

end

section
variable {G : PG} {d : Nat} {c : Sc}
end
end Mine
end

section
set_option autoImplicit false
namespace Mine
open PySem PySem.NumText

/-! int(..) of figures -/
section
variable {G : PG} {d : Nat} {c : Sc} {A : Around} {env : Env} {lay : Nat → Option Place} {Sys : Addr → Prop} {base : Heap} {st : St} {s : Shared}

end
end Mine
end

section
set_option autoImplicit false
namespace Mine
open PySem

end Mine
end

section
set_option autoImplicit false
namespace Mine
open PySem

section
variable {G : PG} {d : Nat} {c : Sc} {A : Around} {env : Env} {lay : Nat → Option Place} {Sys : Addr → Prop} {base : Heap} {st : St} {s : Shared} {H : AH}

/-- list(..) of a thing to walk -/
noncomputable abbrev SL (G : PG) (d : Nat) (c : Sc) (it : It) (z : Expr) : Prop :=
  ∀ {A : Around} {env : Env} {lay : Nat → Option Place} {Sys : Addr → Prop} {base : Heap} {st : St} {s : Shared} {y : Str} {p pos : Pos}, Fx G d c A env lay Sys base st s → isGlob c y "list" = true → noStar z = true →
    Snd G.prog G.w A (NN st.H Sys) s true (eval (.Call (.Name y p) [z] [] pos) env) (WE (G.cx d) (.listOf it) st)

theorem new_at {hsh : HFn} {h h' : Heap} {vs : List V} {xs : Array Value} {n : Nat} {a : Addr} (ho : HO hsh H Sys h) (hsys : ∀ a, Sys a → h.get? a ≠ none) (hf : h.get? a = none) (hl : IsL h' a xs n) (hz : xs.size ≤ sizeLine) (r : RVs (NN H Sys) h' vs xs.toList) :
    RV (NN H Sys) h' (.lst vs) (.ref a) := by
  refine .lst (fun q => ?_) hl hz r
  rcases q with q | q
  · cases e : H a with
    | none => exact q e
    | some o =>
      obtain ⟨ob, e'⟩ := (ho _ _ e).exists
      rw [hf] at e'; cases e'
  · exact hsys _ q hf

theorem RVs.of_get {N : Addr → Prop} {h : Heap} : ∀ {vs : List V} {xs : List Value}, vs.length = xs.length → (∀ (i : Nat) (v : V) (x : Value), vs[i]? = some v → xs[i]? = some x → RV N h v x) → RVs N h vs xs
  | [], [], _, _ => .nil
  | v :: vs, x :: xs, hl, hg => .cons (hg 0 v x rfl rfl) (RVs.of_get (by simpa using hl) fun i u y a b => hg (i + 1) u y (by simpa using a) (by simpa using b))
  | [], _ :: _, hl, _ => by simp at hl
  | _ :: _, [], hl, _ => by simp at hl

theorem list_one {e : E} {z : Expr} {y : Str} {p pos : Pos} {Q : V → Prop} {X : String → Prop} {K E : Value → Shared → Prop} (F : Fx G d c A env lay Sys base st s) (hg : isGlob c y "list" = true) (hz : noStar z = true) (he : SE G d c e z)
    (hW : WE (G.cx d) e st Q X) (hK : ∀ u va s', Q u → RV (NN st.H Sys) s'.heap u va → Kp s s' → wpAny (model G.prog G.w) A (call (.type "list") [va]) K E s') (hX : ∀ e s', Rz s X e s' → E e s') :
    wpAny (model G.prog G.w) A (eval (.Call (.Name y p) [z] [] pos) env) K E s := by
  refine ev_call_t (es := .cons e .nil) (X := X) (Q := fun vs => ∃ u, vs = [u] ∧ Q u) F hg (by decide) rfl (ses_cons hz he ses_nil) ?_ ?_ hX
  · simp only [wes_0, wes_1, List.cons.injEq, and_true, exists_eq_left']; exact hW
  · rintro vs vals s₁ ⟨u, rfl, h₁⟩ r k
    cases r with
    | cons r1 r2 => cases r2; exact hK u _ s₁ h₁ r1 k

theorem sl_seq {e : E} {z : Expr} (he : SE G d c e z) : SL G d c (.seq e) z := by
  intro A env lay Sys base st s y p pos F hg hz Q X K E hW hK hX
  simp only [we_0, we_1, we_2, we_3, we_4, we_5, we_6, we_7, we_8, we_9, we_10, we_11, we_12, we_13, we_14, we_15, we_16, we_17, we_18, we_19, we_20, we_21, we_22, we_23, we_24, we_25, we_26, we_27, we_28, we_29, we_30, we_31, we_32, we_33, we_34, we_35, wi_0, wi_1, wi_2, wi_3, wi_4, wi_5, wi_6, wi_7, rg1, rg2, rg3] at hW
  refine list_one F hg hz he hW (fun u va s₁ h₁ r₁ k₁ => ?_) hX
  have F₁ := F.keeps k₁
  split at h₁
  · rename_i vs hv
    have fin : ∀ {a : Addr} {xs : Array Value} {n : Nat} {T : String}, T = "list" ∨ T = "tuple" → s₁.heap.get? a = some { cls := .type T, data := .seq xs n } → RVs (NN st.H Sys) s₁.heap vs xs.toList → xs.size ≤ sizeLine →
        wpAny (model G.prog G.w) A (call (.type "list") [.ref a]) K E s₁ := by
      intro a xs n T hT hl r hz
      refine call_list_seq a hT hl rfl rfl (fun h' c' hk hn => ?_) hz
      have kk : Kp s₁ { s₁ with heap := h' } := Kp.ofH hk
      exact hK _ _ _ h₁.2 (new_at F₁.sim.objs F₁.sim.live (fresh_size _) hn hz (r.keeps hk)) (k₁.trans kk) fun _ => (Frsh.mk (s := s₁) (s' := { s₁ with heap := h' }) (fresh_size _) r hk hn hz).before k₁
    cases r₁ with
    | lst b1 b2 b3 b4 => simp [iv_none, iv_bool, iv_int, iv_str, iv_tup, iv_lst, iv_ref, iv_inst, iv_iref] at hv; subst hv; exact fin (.inl rfl) b2 b4 b3
    | tup b1 b2 b3 b4 => simp [iv_none, iv_bool, iv_int, iv_str, iv_tup, iv_lst, iv_ref, iv_inst, iv_iref] at hv; subst hv; exact fin (.inr rfl) b2 b4 b3
    | str u t o =>
      simp [iv_none, iv_bool, iv_int, iv_str, iv_tup, iv_lst, iv_ref, iv_inst, iv_iref] at hv; subst hv
      refine call_list_str F.rm.hnd u t (fun h' tk acc' c' hk hn hi => ?_) o.1
      have kk : Kp s₁ { s₁ with heap := h', toks := tk } := Kp.of hk
      have hlen : acc'.size = u.cps.size := hi.1
      have rr : ∀ (N : Addr → Prop) (h : Heap), RVs N h (signsOf u) acc'.toList := fun N h => RVs.of_get (by simp [signsOf, hlen]) fun i v x hv hx => ?_
      exact hK _ _ _ h₁.2 (new_at F₁.sim.objs F₁.sim.live (fresh_size _) hn (by rw [hlen]; exact o.1) (rr _ _)) (k₁.trans kk) fun _ => (Frsh.mk (s := s₁) (s' := { s₁ with heap := h', toks := tk }) (fresh_size _) (rr _ _) hk hn (by rw [hlen]; exact o.1)).before k₁
      obtain ⟨cc, tt, hc, rfl⟩ := hi.2 i x (by simpa using hx)
      have hc' : u.cps.toList[i]? = some cc := by rw [Array.getElem?_toList]; exact hc
      simp only [signsOf, List.getElem?_map, hc', Option.map_some, Option.some.injEq] at hv
      subst hv
      exact .str _ _ (o.one (List.mem_of_getElem? hc'))
    | ref ad =>
      simp only [iv_none, iv_bool, iv_int, iv_str, iv_tup, iv_lst, iv_ref, iv_inst, iv_iref] at hv
      split at hv
      · rename_i ws hw
        cases hv
        cases F₁.sim.objs _ _ hw with
        | list b1 b2 b3 => exact fin (.inl rfl) b1 b3 b2
      · cases hv
    | _ => simp [iv_none, iv_bool, iv_int, iv_str, iv_tup, iv_lst, iv_ref, iv_inst, iv_iref] at hv
  · exact h₁.elim

end

end Mine
end

section
set_option autoImplicit false
namespace Mine
open PySem
end Mine
end

section
set_option autoImplicit false
namespace Mine
open PySem

theorem cut_mem {α : Type} {xs : List α} {lo hi : Nat} {x : α} (h : x ∈ cutL xs lo hi) : x ∈ xs := List.mem_of_mem_drop (List.mem_of_mem_take h)
theorem cut_len {α : Type} (xs : List α) (lo hi : Nat) : (cutL xs lo hi).length ≤ xs.length := by simp [cutL]; omega
theorem RVs.cut {N : Addr → Prop} {h : Heap} {vs : List V} {xs : List Value} (r : RVs N h vs xs) (lo hi : Nat) : RVs N h (cutL vs lo hi) (cutL xs lo hi) := by
  have hl := r.length
  refine RVs.of_get (by simp [cutL, hl]) fun i v x hv hx => ?_
  simp only [cutL, List.getElem?_take, List.getElem?_drop] at hv hx
  split at hv
  · rename_i hlt
    rw [if_pos hlt] at hx
    obtain ⟨x', e, rx⟩ := r.get _ hv
    rw [hx] at e; cases e; exact rx
  · cases hv

theorem bnd_part {N : Addr → Prop} {h : Heap} {n e : Nat} {v : V} {x : Value} {k : Nat} (r : RV N h v x) (hb : bnd n e v = some k) : ∃ o : Option Int, IsPart x o ∧ k = o.elim e (clipAt n) ∧ ∃ l : Option (Int × Tok), x = partValue l ∧ l.map (·.1) = o := by
  cases r <;> simp [bn_none, bn_int, bn_bool, bn_str, bn_tup, bn_lst, bn_ref, bn_inst, bn_iref] at hb
  · exact ⟨none, .none, hb.symm, none, rfl, rfl⟩
  · rename_i i t
    exact ⟨some i, .int i t, hb.symm, some (i, t), rfl, rfl⟩

theorem strIdx (lo hi : Option Int) (n : Nat) : Builtin.Str.strSliceIndices lo hi 1 n = sliceRange ((lo.elim 0 (clipAt n) : Nat) : Int) ((hi.elim n (clipAt n) : Nat) : Int) 1 := by
  unfold Builtin.Str.strSliceIndices
  cases lo <;> cases hi <;> simp [clipAt_cast]

section
variable {G : PG} {d : Nat} {c : Sc} {A : Around} {env : Env} {lay : Nat → Option Place} {Sys : Addr → Prop} {base : Heap} {st : St} {s : Shared} {H : AH}

/-- a bound of a cut: written, or none -/
noncomputable abbrev SP (G : PG) (d : Nat) (c : Sc) (e : E) (x : Option Expr) : Prop := match x with
  | some x => SE G d c e x
  | none => e = .none

theorem sp_eval {e : E} {x : Option Expr} {Q : V → Prop} {X : String → Prop} {K E : Value → Shared → Prop} (h : SP G d c e x) (F : Fx G d c A env lay Sys base st s) (hW : WE (G.cx d) e st Q X)
    (hK : ∀ v val s', Q v → RV (NN st.H Sys) s'.heap v val → Kp s s' → K val s') (hX : ∀ e s', Rz s X e s' → E e s') : wpAny (model G.prog G.w) A (evalPart x env) K E s := by
  cases x with
  | none =>
    have h : e = .none := h
    subst h
    rw [evalPart_none]
    exact wpAny_pure (hK _ _ _ (by simpa [we_0, we_1, we_2, we_3, we_4, we_5, we_6, we_7, we_8, we_9, we_10, we_11, we_12, we_13, we_14, we_15, we_16, we_17, we_18, we_19, we_20, we_21, we_22, we_23, we_24, we_25, we_26, we_27, we_28, we_29, we_30, we_31, we_32, we_33, we_34, we_35] using hW) .none (Kp.refl s))
  | some x =>
    rw [evalPart_some]
    exact (show SE G d c e x from h) F |>.weak _ X _ E hW (fun v val s' q r k _ => hK v val s' q r k) hX

theorem prim_slice {value : Expr} {lower upper : Option Expr} {p : Pos} {u lv hv : V} {a l h : Value} {Q : V → Prop} {K E : Value → Shared → Prop} (F : Fx G d c A env lay Sys base st s) (hW : sliceV st.H u lv hv Q)
    (ra : RV (NN st.H Sys) s.heap u a) (rl : RV (NN st.H Sys) s.heap lv l) (rh : RV (NN st.H Sys) s.heap hv h)
    (hK : ∀ r val s', Q r → RV (NN st.H Sys) s'.heap r val → Kp s s' → K val s') :
    wpAny (model G.prog G.w) A (PyProof.Rows.subscriptTail value (.Slice lower upper none p) a (.ref s.heap.objs.size)) K E { s with heap := s.heap.push { cls := .type "slice", data := .fields #[l, h, .none] } } := by
  have k1 : Kp s { s with heap := s.heap.push { cls := .type "slice", data := .fields #[l, h, .none] } } := Kp.ofH (HK.push _ _)
  have F₁ := F.keeps k1
  unfold sliceV at hW
  split at hW
  · rename_i x
    cases ra with
    | str _ t hx =>
      split at hW
      · rename_i i j hi hj
        obtain ⟨oi, pi, ei, li, vi, mi⟩ := bnd_part rl hi
        obtain ⟨oj, pj, ej, lj, vj, mj⟩ := bnd_part rh hj
        subst vi vj
        refine PyProof.Rows.tail_any (typeIs_str _ x t) PySem.F.slot_str_getitem.lookup (wpAny_getItem_str_slice (l := li) (u := lj) (st := none) ⟨_, Heap.get?_push_size _ rfl, rfl, rfl⟩ rfl ?_) rfl
        have hpick : slicePicked x li lj none = (List.range (j - i)).map (i + ·) := by
          unfold slicePicked
          rw [mi, mj]
          show Builtin.Str.strSliceIndices oi oj 1 x.length = _
          rw [strIdx, ← ei, ← ej, sliceRange_one]
        have hcut : (slicePicked x li lj none).filterMap (x.cps[·]?) = cutL x.cps.toList i j := by rw [hpick, pick_run]; rfl
        have hok : SOk ⟨(cutL x.cps.toList i j).toArray⟩ := hx.sub (by have := cut_len x.cps.toList i j; simpa [Str.length] using this) fun c hc => cut_mem hc
        unfold sliceMade
        split
        · rename_i hw
          have hlen : (slicePicked x li lj none).length = x.length := by simpa using hw
          have hwhole : cutL x.cps.toList i j = x.cps.toList := by
            have h1 : j - i = x.cps.size := by rw [hpick] at hlen; simpa [Str.length] using hlen
            have hj' : j ≤ x.cps.size := by
              rw [ej]
              cases oj with
              | none => exact Nat.le_refl _
              | some z => show clipAt x.cps.size z ≤ _; unfold clipAt; omega
            have h0 : x.cps.size = 0 ∨ i = 0 := by omega
            have : x.cps.toList.length = x.cps.size := Array.length_toList
            rcases h0 with h0 | h0
            · have : x.cps.toList = [] := List.eq_nil_of_length_eq_zero (by omega)
              rw [this]; simp [cutL]
            · subst h0
              simp only [cutL, List.drop_zero]
              exact List.take_of_length_le (by omega)
          rw [hwhole] at hW
          exact hK _ _ _ hW (.str _ _ hx) k1
        · refine ⟨?_, ?_⟩
          · rw [hcut]; exact hok.1
          · rw [hcut]
            exact hK _ _ _ hW (.str _ _ hok) (k1.trans (Kp.tok _ _))
      · exact hW.elim
  · split at hW
    · rename_i vs hvs
      split at hW
      · rename_i i j hi hj
        obtain ⟨oi, pi, ei, _⟩ := bnd_part rl hi
        obtain ⟨oj, pj, ej, _⟩ := bnd_part rh hj
        obtain ⟨ad, xs, n, rfl, hl, hz, rx⟩ := seqL_at F.sim.objs ra hvs
        have hsz := rx.size
        have hl1 := hl.isList.push { cls := .type "slice", data := .fields #[l, h, .none] }
        refine PyProof.Rows.tail_any hl1.typeIs slot_list_getitem.lookup (wpAny_getItem_list_slice hl1 (Heap.IsSliceOf.new ..) pi pj .none (by simp) ?_ hz) rfl
        have hpick : slicePick xs oi oj none = (cutL xs.toList i j).toArray := by
          rw [slicePick_plain, ei, ej, hsz]; rfl
        rw [hpick]
        exact hK _ _ _ hW (new_lst F₁.sim.objs F₁.sim.live (by simpa using (rx.keeps k1.hk).cut i j) (by have := cut_len xs.toList i j; simp at this ⊢; omega)) (k1.trans (Kp.ofH (HK.push _ _)))
      · exact hW.elim
    · exact hW.elim

theorem se_slice {a lo hi : E} {y : Expr} {lower upper : Option Expr} {p pos : Pos} (F : Fx G d c A env lay Sys base st s) (ha : SE G d c a y) (hl : SP G d c lo lower) (hh : SP G d c hi upper) :
    Snd G.prog G.w A (NN st.H Sys) s false (eval (.Subscript y (.Slice lower upper none p) pos) env) (WE (G.cx d) (.slice a lo hi) st) := by
  intro Q X K E hW hK hX
  simp only [we_0, we_1, we_2, we_3, we_4, we_5, we_6, we_7, we_8, we_9, we_10, we_11, we_12, we_13, we_14, we_15, we_16, we_17, we_18, we_19, we_20, we_21, we_22, we_23, we_24, we_25, we_26, we_27, we_28, we_29, we_30, we_31, we_32, we_33, we_34, we_35] at hW
  refine PyProof.Rows.Subscript_ ((ha F).weak _ X _ E hW (fun u va s₁ h₁ r₁ k₁ _ => ?_) hX)
  have F₁ := F.keeps k₁
  refine wpAny_Slice (sp_eval hl F₁ h₁ (fun lv l s₂ h₂ r₂ k₂ => ?_) fun e s' q => hX e s' (Rz.trans k₁ q))
  have F₂ := F₁.keeps k₂
  refine sp_eval hh F₂ h₂ (fun hv h s₃ h₃ r₃ k₃ => ?_) fun e s' q => hX e s' (Rz.trans (k₁.trans k₂) q)
  have F₃ := F₂.keeps k₃
  rw [evalPart_none]
  refine wpAny_pure ?_
  exact prim_slice F₃ h₃ (r₁.keeps (k₂.trans k₃).hk) (r₂.keeps k₃.hk) r₃ fun r val s' q rv k => hK r val s' q rv (((k₁.trans k₂).trans k₃).trans k) nofun

theorem strs_are {N : Addr → Prop} {h : Heap} : ∀ {vs : List V} {xs : List Value} {ys : List Str}, RVs N h vs xs → strsOf vs = some ys → PyProof.Rows.StrsAre xs ys ∧ ∀ y ∈ ys, SOk y
  | _, _, ys, .nil, e => by simp [so_nil, so_none, so_bool, so_int, so_str, so_tup, so_lst, so_ref, so_inst, so_iref] at e; subst e; exact ⟨.nil, by simp⟩
  | _, _, ys, .cons r1 r2, e => by
    cases r1 <;> simp [so_nil, so_none, so_bool, so_int, so_str, so_tup, so_lst, so_ref, so_inst, so_iref] at e
    rename_i s0 t0 ho
    obtain ⟨zs, e1, rfl⟩ := e
    obtain ⟨h1, h2⟩ := strs_are r2 e1
    exact ⟨.cons _ _ h1, by simp; exact ⟨ho, h2⟩⟩
theorem lenAll_eq : ∀ ys : List Str, lenAll ys = (ys.map (·.length)).sum
  | [] => rfl
  | y :: ys => by simp [la_nil, la_cons, lenAll_eq ys]

theorem join_mem {sep : Str} : ∀ {ys : List Str} {ch : Nat}, ch ∈ (Str.join sep ys).cps.toList → ch ∈ sep.cps.toList ∨ ∃ y ∈ ys, ch ∈ y.cps.toList
  | [], ch, h => by simp [Str.join, Str.empty] at h
  | [y], ch, h => .inr ⟨y, by simp, h⟩
  | y :: z :: r, ch, h => by
    have e : (Str.join sep (y :: z :: r)) = y ++ sep ++ Str.join sep (z :: r) := rfl
    rw [e] at h
    have e2 : (y ++ sep ++ Str.join sep (z :: r)).cps = y.cps ++ sep.cps ++ (Str.join sep (z :: r)).cps := rfl
    rw [e2] at h
    simp only [Array.toList_append, List.mem_append] at h
    rcases h with (h | h) | h
    · exact .inr ⟨y, by simp, h⟩
    · exact .inl h
    · rcases join_mem h with h | ⟨u, hu, h⟩
      · exact .inl h
      · exact .inr ⟨u, by simp at hu ⊢; exact .inr hu, h⟩

theorem se_join {a : E} {t : Str} {k : Nat} {z : Expr} {p ap pos : Pos} (F : Fx G d c A env lay Sys base st s) (hline : (ap.endLine == pos.line) = true) (ht : SOk t) (hz : noStar z = true) (ha : SE G d c a z) :
    Snd G.prog G.w A (NN st.H Sys) s false (eval (.Call (.Attribute (.Constant (.str t) k p) (Str.ofString "join") ap) [z] [] pos) env) (WE (G.cx d) (.join (.str t) a) st) := by
  intro Q X K E hW hK hX
  simp only [we_0, we_1, we_2, we_3, we_4, we_5, we_6, we_7, we_8, we_9, we_10, we_11, we_12, we_13, we_14, we_15, we_16, we_17, we_18, we_19, we_20, we_21, we_22, we_23, we_24, we_25, we_26, we_27, we_28, we_29, we_30, we_31, we_32, we_33, we_34, we_35] at hW
  refine wpAny_Call_method (T := "str") (id := "str.join") rfl (by rw [starEach_cons hz]; rfl) hline PySem.F.plainAttrs_str PySem.F.slot_str_join PySem.F.type_str_join ?_
  refine wpAny_Constant_str ⟨typeIs_str _ _ _, nofun, ?_⟩
  have k₁ : Kp s { s with toks := s.toks + 1 } := Kp.tok s _
  have F₁ := F.keeps k₁
  rw [starEach_cons hz]
  refine Calls.callWith_builtin rfl (Calls.evalArgs_plain (Calls.spliced_cons ((ha F₁).weak _ X _ E hW (fun v va s₂ h₂ r₂ k₂ _ => Calls.spliced_nil ?_) fun e s' q => hX e s' (Rz.trans k₁ q))))
  have F₂ := F₁.keeps k₂
  split at h₂
  · rename_i _ ss e1 e2
    cases e1
    simp only [Option.bind_eq_some_iff] at e2
    obtain ⟨vs, e3, e4⟩ := e2
    obtain ⟨ad, xs, n, rfl, hl, hsz, rx⟩ := seqL_at F₂.sim.objs r₂ e3
    obtain ⟨h1, h2⟩ := strs_are rx e4
    have hok : (ss.map (·.length)).sum + ss.length * t.length ≤ 16777216 := by
      rw [← lenAll_eq, Nat.mul_comm]; exact h₂.1
    refine PyProof.Rows.join_list hl.isList h1 hok fun t' tk => ?_
    have ej : Txt.join t ss = Str.join t ss := StrLaws.glued_eq_join t ss
    rw [ej]
    refine hK _ _ _ h₂.2 (.str _ _ ⟨?_, fun ch hc => ?_⟩) ((k₁.trans k₂).trans (Kp.tok _ _)) nofun
    · exact Nat.le_trans (StrLaws.join_length_le t ss) hok
    · rcases join_mem hc with h | ⟨y, hy, h⟩
      · exact ht.2 ch h
      · exact (h2 y hy).2 ch h
  · exact h₂.elim
end

section
variable {G : PG} {d : Nat} {c : Sc} {A : Around} {env : Env} {lay : Nat → Option Place} {Sys : Addr → Prop} {base : Heap} {st : St} {s : Shared}

theorem int2_inv {vs : List V} {P : Int → Int → Prop} (h : int2 vs P) : ∃ i j, vs = [.int i, .int j] ∧ P i j := by
  rcases vs with _ | ⟨a, _ | ⟨b, _ | ⟨e, r⟩⟩⟩
  · exact False.elim h
  · exact False.elim h
  · obtain ⟨i, rfl, h⟩ := intP_inv h
    obtain ⟨j, rfl, h⟩ := intP_inv h
    exact ⟨_, _, rfl, h⟩
  · exact False.elim h
theorem se_max2 {a b : E} {y : Str} {z u : Expr} {p pos : Pos} (F : Fx G d c A env lay Sys base st s) (hg : isGlob c y "max" = true) (hz : noStar z = true) (hu : noStar u = true) (ha : SE G d c a z) (hb : SE G d c b u) :
    Snd G.prog G.w A (NN st.H Sys) s false (eval (.Call (.Name y p) [z, u] [] pos) env) (WE (G.cx d) (.max2 a b) st) := by
  intro Q X K E hW hK hX
  refine ev_call_b (es := .cons a (.cons b .nil)) (X := X) (Q := fun vs => int2 vs fun i j => Q (.int (if j > i then j else i))) F hg (by decide) rfl (ses_cons hz ha (ses_cons hu hb ses_nil)) hW ?_ hX
  intro vs vals s₁ q r k
  replace q := int2_inv q; obtain ⟨i, j, rfl, q⟩ := q
  cases r with
  | cons r1 r2 =>
    cases r2 with
    | cons r2 r3 =>
      cases r3; cases r1; cases r2; rename_i t1 t2
      refine max_two_ints F.rm.hnd fun h' tk hk => ?_
      have e : (if j > i then Value.int j t2 else Value.int i t1) = .int (if j > i then j else i) (if j > i then t2 else t1) := by split <;> rfl
      rw [e]
      exact hK _ _ _ q (.int _ _) (k.trans (Kp.of hk)) nofun
end

section
variable {prog : Program} {w : World} {A : Around} {R : Result → Shared → Prop} {I : Addr} {fp wr : List Addr} {n : Nat} {P : Nat → Value → Prop} {St : Nat → Heap → Prop}

end

section
variable {prog : Program} {w : World} {A : Around} {E : Value → Shared → Prop} {s : Shared}

end

section
variable {G : PG} {d : Nat} {c : Sc} {A : Around} {env : Env} {lay : Nat → Option Place} {Sys : Addr → Prop} {base : Heap} {st : St} {s : Shared}

end

end Mine
end

section
set_option autoImplicit false
namespace Mine
open PySem

/-- only these places of the frame are turned -/
noncomputable def Tc (is : List Nat) (lay : Nat → Option Place) (h h' : Heap) : Prop := ∀ b o, (∀ i ∈ is, ∀ p, lay i = some p → b ≠ p.addr) → h.get? b = some o → h'.get? b = some o
theorem Tc.refl {is : List Nat} {lay : Nat → Option Place} (h : Heap) : Tc is lay h h := fun _ _ _ e => e
theorem Tc.trans {is : List Nat} {lay : Nat → Option Place} {a b c : Heap} (x : Tc is lay a b) (y : Tc is lay b c) : Tc is lay a c := fun p o n e => y p o n (x p o n e)
theorem Tc.ofHK {is : List Nat} {lay : Nat → Option Place} {a b : Heap} (x : HK a b) : Tc is lay a b := fun p o _ e => x p o e
theorem Tc.more {is js : List Nat} {lay : Nat → Option Place} {a b : Heap} (x : Tc is lay a b) (h : ∀ i ∈ is, i ∈ js) : Tc js lay a b := fun p o n e => x p o (fun i hi => n i (h i hi)) e
noncomputable def Tg.idx : Tg → List Nat
  | .var i => [i]
  | .tup is => is

section
variable {prog : Program} {w : World} {A : Around} {E : Value → Shared → Prop} {hsh : HFn} {T : Heap → Prop} {lay : Nat → Option Place} {Sys : Addr → Prop} {base : Heap} {st : St} {s : Shared} {env : Env} {c : Sc}

theorem chkN_eq {i : Nat} {tg : Expr} (h : chkN c i tg = true) : ∃ x pos, tg = .Name x pos ∧ c.σ.lookup x = some i ∧ (c.names.lookup x = some .local ∨ c.names.lookup x = some .cell) := by
  replace h := onName_inv h; obtain ⟨x, pos, rfl, h⟩ := h
  simp only [Bool.and_eq_true, isVar, canStore, decide_eq_true_eq, Bool.or_eq_true] at h
  exact ⟨x, pos, rfl, h.1.1, h.2⟩

theorem RVs.tc {v : List V} {x : List Value} {h' : Heap} (S : Sim hsh T lay Sys base st s.heap) (r : RVs (NN st.H Sys) s.heap v x) {is : List Nat} (t : Tc is lay s.heap h') : RVs (NN st.H Sys) h' v x :=
  r.gen (fun _ q => .inl q) fun b o nb e => t b o (fun i _ p hp hb => nb (.inr (hb ▸ (S.sys i p hp).1))) e

theorem st_one {M : Model} {i : Nat} {tg : Expr} {v : V} {val : Value} {Q : Unit → Shared → Prop} (O : EnvOk env c.names c.σ lay) (S : Sim hsh T lay Sys base st s.heap) (ht : chkN c i tg = true) (hi : i < st.ρ.length) (hr : RV (NN st.H Sys) s.heap v val)
    (hQ : ∀ h' tk, Sim hsh T lay Sys base { st with ρ := st.ρ.set i (some v) } h' → Tc [i] lay s.heap h' → Q () { s with heap := h', toks := tk }) : wpAny M A (assign tg env val) Q E s := by
  obtain ⟨x, pos, rfl, h1, h2⟩ := chkN_eq ht
  refine wpAny_assign_Name (st_var O S h1 hi (fun e => ?_) hr fun h' t p hp hs hsim => hQ h' t hsim fun b o nb e => (hs.2 b (nb i (by simp) p hp)).trans e)
  rcases h2 with h2 | h2
  · rw [O.lc x h2] at e; cases e
  · rw [O.ce x h2] at e; cases e

theorem chkNs_each {M : Model} {Q : Unit → Shared → Prop} : ∀ (is : List Nat) (xs : List Expr) (vs : List V) (vals : List Value) (st : St) (ρ' : List (Option V)) (s : Shared), EnvOk env c.names c.σ lay → Sim hsh T lay Sys base st s.heap → chkNs c is xs = true → setAll is vs st.ρ = some ρ' →
    RVs (NN st.H Sys) s.heap vs vals → (∀ h' tk, Sim hsh T lay Sys base { st with ρ := ρ' } h' → Tc is lay s.heap h' → Q () { s with heap := h', toks := tk }) → wpAny M A (assignInOrder ((assignEach xs env).map (·.2)) vals) Q E s
  | [], xs, vs, vals, st, ρ', s, O, S, hc, hs, hr, hQ => by
    cases xs with
    | cons => simp [chkNs] at hc
    | nil =>
      cases vs with
      | cons => simp [sa_nil, sa_cons, sa_l, sa_r] at hs
      | nil =>
        simp [sa_nil, sa_cons, sa_l, sa_r] at hs; subst hs
        exact wpAny_pure (hQ s.heap s.toks S (Tc.refl _))
  | i :: is, xs, vs, vals, st, ρ', s, O, S, hc, hs, hr, hQ => by
    cases xs with
    | nil => simp [chkNs] at hc
    | cons x xs =>
      simp only [chkNs, Bool.and_eq_true] at hc
      cases vs with
      | nil => simp [sa_nil, sa_cons, sa_l, sa_r] at hs
      | cons v vs =>
        simp only [sa_nil, sa_cons, sa_l, sa_r] at hs
        split at hs
        · rename_i hi
          cases hr with
          | cons r1 r2 =>
            obtain ⟨y, pos, rfl, _⟩ := chkN_eq hc.1
            show wpAny M A (do holding _ (assign (.Name y pos) env _); assignInOrder ((assignEach xs env).map (·.2)) _) Q E s
            refine wpAny_bind (wpAny_holding (st_one O S hc.1 hi r1 fun h' tk S' tc => ?_))
            exact chkNs_each is xs vs _ _ ρ' { s with heap := h', toks := tk } O S' hc.2 hs (RVs.tc (st := st) (s := s) S r2 tc) fun h'' tk' S'' tc' => hQ h'' tk' S'' ((tc.more (by simp)).trans (tc'.more (by intro j hj; simp [hj])))
        · cases hs

theorem chkNs_len : ∀ (is : List Nat) (xs : List Expr), chkNs c is xs = true → (assignEach xs env).length = is.length ∧ (assignEach xs env).findIdx? (·.1) = none
  | [], [], _ => ⟨rfl, rfl⟩
  | [], _ :: _, h => by simp [chkNs] at h
  | _ :: _, [], h => by simp [chkNs] at h
  | i :: is, x :: xs, h => by
    simp only [chkNs, Bool.and_eq_true] at h
    obtain ⟨y, pos, rfl, _⟩ := chkN_eq h.1
    obtain ⟨h1, h2⟩ := chkNs_len is xs h.2
    have e : assignEach (.Name y pos :: xs) env = (false, assign (.Name y pos) env) :: assignEach xs env := rfl
    rw [e]
    refine ⟨by simp [h1], ?_⟩
    rw [List.findIdx?_cons, h2]; rfl
theorem setAll_len : ∀ {is : List Nat} {vs : List V} {ρ ρ' : List (Option V)}, setAll is vs ρ = some ρ' → is.length = vs.length ∧ ρ'.length = ρ.length
  | [], [], _, _, h => by simp [sa_nil, sa_cons, sa_l, sa_r] at h; subst h; exact ⟨rfl, rfl⟩
  | [], _ :: _, _, _, h => by simp [sa_nil, sa_cons, sa_l, sa_r] at h
  | _ :: _, [], _, _, h => by simp [sa_nil, sa_cons, sa_l, sa_r] at h
  | i :: is, v :: vs, ρ, ρ', h => by
    simp only [sa_nil, sa_cons, sa_l, sa_r] at h
    split at h
    · have := setAll_len h; simp at this ⊢; exact this
    · cases h
theorem bindT_len {t : Tg} {v : V} {ρ ρ' : List (Option V)} (h : bindT t v ρ = some ρ') : ρ'.length = ρ.length := by
  unfold bindT at h
  split at h
  · unfold putV at h
    split at h
    · cases h; simp
    · cases h
  · exact (setAll_len h).2
  · cases h

theorem st_tg {t : Tg} {tg : Expr} {v : V} {val : Value} {ρ' : List (Option V)} {Q : Unit → Shared → Prop} (hh : A.handled = none) (O : EnvOk env c.names c.σ lay) (S : Sim hsh T lay Sys base st s.heap) (ht : chkTg c t tg = true) (hb : bindT t v st.ρ = some ρ')
    (hr : RV (NN st.H Sys) s.heap v val) (hQ : ∀ h' tk, Sim hsh T lay Sys base { st with ρ := ρ' } h' → Tc t.idx lay s.heap h' → Q () { s with heap := h', toks := tk }) : wpAny (model prog w) A (assign tg env val) Q E s := by
  cases t with
  | var i =>
    simp only [bd_var, bd_tup, bd_none, bd_bool, bd_int, bd_str, bd_lst, bd_ref, bd_inst, bd_iref] at hb
    split at hb
    · rename_i hi
      cases hb
      exact st_one O S ht hi hr hQ
    · cases hb
  | tup is =>
    replace ht := onTup_inv ht; obtain ⟨xs, k, pos, rfl, ht⟩ := ht
    · simp only [Bool.and_eq_true] at ht
      have ht := ht.1
      cases hr with
      | tup h1 h2 h3 h4 =>
        rename_i ad ys n vs
        simp only [bd_var, bd_tup, bd_none, bd_bool, bd_int, bd_str, bd_lst, bd_ref, bd_inst, bd_iref] at hb
        obtain ⟨l1, l2⟩ := chkNs_len (env := env) is xs ht
        have l3 := (setAll_len hb).1
        have l4 := h4.size
        refine wpAny_assign_Tuple hh (IsT.isTuple h2) (by omega) l2 fun h' he => ?_
        have hk : HK s.heap h' := fun b o e => he b o (Nat.ne_of_lt (Heap.lt_size e)) e
        exact chkNs_each is xs vs _ st ρ' { s with heap := h' } O (S.keeps hk) ht hb (h4.keeps hk) fun h'' tk S' tc => hQ h'' tk S' ((Tc.ofHK hk).trans tc)
      | _ => simp [bd_var, bd_tup, bd_none, bd_bool, bd_int, bd_str, bd_lst, bd_ref, bd_inst, bd_iref] at hb
end

/-- an inner frame: more things off limits -/
theorem Sim.enter {hsh : HFn} {T : Heap → Prop} {lay : Nat → Option Place} {Sys New : Addr → Prop} {base : Heap} {st : St} {h h' : Heap} (S : Sim hsh T lay Sys base st h) (k : HK h h') (hn : ∀ b, New b → h.get? b = none) (hn' : ∀ b, New b → h'.get? b ≠ none) :
    Sim hsh T lay (fun a => Sys a ∨ New a) base st h' where
  keep := S.keep.trans k
  top := S.top
  vals := fun i v p a b => by
    obtain ⟨val, x, y⟩ := S.vals i v p a b
    refine ⟨val, x.keeps k, y.gen (fun b q => ?_) fun b o _ e => k b o e⟩
    rcases q with q | q | q
    · exact .inl (.inl q)
    · exact .inl (.inr q)
    · exact .inr (hn b q)
  ok := fun i p a => (S.ok i p a).keeps k
  inj := S.inj
  sys := fun i p a => ⟨.inl (S.sys i p a).1, (S.sys i p a).2⟩
  objs := fun a o e => (S.objs a o e).gen (fun b q => by
    rcases q with q | q | q
    · exact .inl (.inl q)
    · exact .inl (.inr q)
    · exact .inr (hn b q)) (fun b o _ e => k b o e) (fun o e => k a o e)
  own := S.own
  live := fun a q e => by
    rcases q with q | q
    · exact (S.keeps k).live a q e
    · exact hn' a q e
  ent := S.ent

theorem nodup_inj {α : Type} {l : List α} (h : l.Nodup) {i j : Nat} (hi : i < l.length) (hj : j < l.length) (e : l[i] = l[j]) : i = j := by
  have h' := List.pairwise_iff_getElem.mp h
  rcases Nat.lt_trichotomy i j with h1 | h1 | h1
  · exact absurd e (h' i j hi hj h1)
  · exact h1
  · exact absurd e.symm (h' j i hj hi h1)

/-- the comprehension's own places -/
noncomputable def layC (used : Nat) (C : Addr) (xs : List Str) (lay : Nat → Option Place) : Nat → Option Place := fun i => if i < used then lay i else (xs[i - used]?).map (Place.loc C)

noncomputable def wipe (used : Nat) : List (Option V) → List (Option V) := fun ρ => ρ.take used ++ List.replicate (ρ.length - used) none
theorem wipe_length (u : Nat) (ρ : List (Option V)) : (wipe u ρ).length = ρ.length := by simp [wipe]; omega
theorem wipe_get {u i : Nat} {ρ : List (Option V)} {v : V} (h : (wipe u ρ)[i]? = some (some v)) : i < u ∧ ρ[i]? = some (some v) := by
  unfold wipe at h
  rw [List.getElem?_append] at h
  split at h
  · rename_i hi
    simp at hi
    rw [List.getElem?_take, if_pos (by omega)] at h
    exact ⟨by omega, h⟩
  · rw [List.getElem?_replicate] at h
    split at h <;> simp at h

theorem Sim.comp {hsh : HFn} {T : Heap → Prop} {lay : Nat → Option Place} {Sys : Addr → Prop} {base : Heap} {st : St} {h : Heap} {used : Nat} {C : Addr} {xs : List Str} {m : Str → Option Value} (S : Sim hsh T lay Sys base st h) (hus : ∀ i p, lay i = some p → i < used)
    (hC : Sys C) (hCl : ∀ i p, lay i = some p → p.addr ≠ C) (hb : base.get? C = none) (hH : st.H C = none) (hm : h.Ns C m) (hnd : xs.Nodup) : Sim hsh T (layC used C xs lay) Sys base { st with ρ := wipe used st.ρ } h where
  keep := S.keep
  top := S.top
  vals := fun i v p a b => by
    obtain ⟨h1, h2⟩ := wipe_get a
    simp only [layC, if_pos h1] at b
    exact S.vals i v p h2 b
  ok := fun i p a => by
    simp only [layC] at a
    split at a
    · exact S.ok i p a
    · simp only [Option.map_eq_some_iff] at a
      obtain ⟨x, _, rfl⟩ := a
      exact ⟨m, hm⟩
  inj := fun i j p a b => by
    simp only [layC] at a b
    split at a <;> split at b
    · exact S.inj i j p a b
    · simp only [Option.map_eq_some_iff] at b
      obtain ⟨x, _, rfl⟩ := b
      exact absurd rfl (hCl i _ a)
    · simp only [Option.map_eq_some_iff] at a
      obtain ⟨x, _, rfl⟩ := a
      exact absurd rfl (hCl j _ b)
    · simp only [Option.map_eq_some_iff] at a b
      obtain ⟨x, ha, rfl⟩ := a
      obtain ⟨y, hb', e⟩ := b
      cases e
      obtain ⟨l1, e1⟩ := List.getElem?_eq_some_iff.mp ha
      obtain ⟨l2, e2⟩ := List.getElem?_eq_some_iff.mp hb'
      have : i - used = j - used := nodup_inj hnd l1 l2 (e1.trans e2.symm)
      omega
  sys := fun i p a => by
    simp only [layC] at a
    split at a
    · exact S.sys i p a
    · simp only [Option.map_eq_some_iff] at a
      obtain ⟨x, _, rfl⟩ := a
      exact ⟨hC, hb, hH⟩
  objs := S.objs
  own := S.own
  live := S.live
  ent := S.ent

/-- forgetting what the comprehension's places hold -/
theorem Sim.forget {hsh : HFn} {T : Heap → Prop} {lay : Nat → Option Place} {Sys : Addr → Prop} {base : Heap} {st : St} {h : Heap} {ρ' : List (Option V)} (S : Sim hsh T lay Sys base st h) (hv : ∀ (i : Nat) (v : V) (p : Place), lay i = some p → ρ'[i]? = some (some v) → st.ρ[i]? = some (some v)) :
    Sim hsh T lay Sys base { st with ρ := ρ' } h where
  keep := S.keep
  top := S.top
  vals := fun i v p a b => S.vals i v p (hv i v p b a) b
  ok := S.ok
  inj := S.inj
  sys := S.sys
  objs := S.objs
  own := S.own
  live := S.live
  ent := S.ent

end Mine
end

section
set_option autoImplicit false
namespace Mine
open PySem

section
variable {prog : Program} {w : World} {A : Around} {E : Value → Shared → Prop} {R : Result → Shared → Prop} {s : Shared}

theorem compLoop_gen {elt target iter : Expr} {ifs : List Expr} {scope : Scope} {pos : Pos} {it acc : Value} {env : Env} (I : Nat → Shared → Prop)
    (turn : ∀ n s, I n s → wpAny (model prog w) A (pyNext it) (fun r s₁ => match r with
      | none => R (.ok .next) s₁
      | some v => wpAny (model prog w) A (letOwnedTupleGo target it v) (fun _ s₁' => wpAny (model prog w) A (assign target env v) (fun _ s₂ =>
          wpAny (model prog w) A (forIn ifs true fun c r => if r = true then do let ok ← isTrue c env (eval c env); pure (ForInStep.yield ok) else pure (ForInStep.yield r)) (fun ok s₃ =>
            if ok = true then wpAny (model prog w) A (eval elt env) (fun x s₄ =>
              wpAny (model prog w) A (call (.builtin "list.append") [acc, x]) (fun _ s₅ => ∃ m, m < n ∧ I m s₅) (notedBy (model prog w) A env fun e s' => R (.error e) s') s₄) (notedBy (model prog w) A env fun e s' => R (.error e) s') s₃
            else ∃ m, m < n ∧ I m s₃) (notedBy (model prog w) A env fun e s' => R (.error e) s') s₂) (notedBy (model prog w) A env fun e s' => R (.error e) s') s₁') (notedBy (model prog w) A env fun e s' => R (.error e) s') s₁) (notedBy (model prog w) A env fun e s' => R (.error e) s') s)
    (n : Nat) (h : I n s) : codeAny (model prog w) A (.compLoop (.ListComp elt [⟨target, iter, ifs, 0⟩] scope pos) 0 it acc env) R s := by
  refine codeAny_loop rfl I (fun n s hI => ?_) n h
  show wpAny _ A ((compTurn (.ListComp elt [⟨target, iter, ifs, 0⟩] scope pos) 0 it acc env).onRaise (fun x => do noteFrame x env; theTreesLotGoes x)) _ _ s
  refine wpAny_noted ?_
  rw [compTurn_list]
  refine wpAny_bind (wpAny_standAt (wpAny_bind (wpAny_mono (turn n s hI) (fun r s₁ h₁ => ?_) fun _ _ h' => h')))
  cases r with
  | none => exact wpAny_pure h₁
  | some v =>
    refine wpAny_bind (wpAny_mono h₁ (fun _ s₁' h₁' => ?_) fun _ _ h' => h')
    refine wpAny_bind (wpAny_mono h₁' (fun _ s₂ h₂ => wpAny_bind (wpAny_mono h₂ (fun ok s₃ h₃ => ?_) fun _ _ h' => h')) fun _ _ h' => h')
    cases ok with
    | false => exact wpAny_pure ⟨rfl, h₃⟩
    | true =>
      exact wpAny_bind (wpAny_bind (wpAny_mono h₃ (fun x s₄ h₄ => wpAny_bind (wpAny_mono h₄ (fun _ s₅ h₅ => wpAny_pure (wpAny_pure ⟨rfl, h₅⟩)) fun _ _ h' => h')) fun _ _ h' => h'))

theorem append_call {l : Addr} {items : Array Value} {n : Nat} {v : Value} {Q : Value → Shared → Prop} (hl : IsL s.heap l items n) (hz : items.size ≤ sizeLine)
    (h : Q .none { s with heap := s.heap.update l (Obj.mapSeq fun xs => xs.push v) }) : wpAny (model prog w) A (call (.builtin "list.append") [.ref l, v]) Q E s :=
  call_meets F.slot_list_append ⟨_, hl, rfl⟩ F.entry_list_append (F.args_list_append_2 _ _) (list_append l items n v hz) ⟨hl, h⟩
end

/-- what a comprehension's free names stand in -/
theorem closure_ok {scope : Scope} {env : Env} (h : ∀ p ∈ scope.names, p.2 = .free → ∃ a, env.cells.lookup p.1 = some a) :
    ∃ cl, closureFor scope env = pure cl ∧ ∀ p ∈ scope.names, p.2 = .free → ∃ a, cl.lookup p.1 = some a ∧ env.cells.lookup p.1 = some a := by
  have key : ∀ (names : List (Str × NameKind)) (acc : List (Str × Addr)), (∀ p ∈ names, p.2 = .free → ∃ a, env.cells.lookup p.1 = some a) → (∀ x a, acc.lookup x = some a → env.cells.lookup x = some a) →
      ∃ cl, (forIn names acc (fun (p : Str × NameKind) cs => do
        if p.2 == .free then
          let a ← cellOf env p.1
          pure (ForInStep.yield ((p.1, a) :: cs))
        else pure (ForInStep.yield cs)) : Sem (List (Str × Addr))) = pure cl ∧ (∀ x a, cl.lookup x = some a → env.cells.lookup x = some a) ∧ (∀ x, (acc.lookup x).isSome → (cl.lookup x).isSome) ∧ (∀ p ∈ names, p.2 = .free → (cl.lookup p.1).isSome) := by
    intro names
    induction names with
    | nil => intro acc _ ha; exact ⟨acc, rfl, ha, fun _ e => e, by simp⟩
    | cons p r ih =>
      intro acc hf ha
      obtain ⟨n, k⟩ := p
      by_cases hk : k = .free
      · subst hk
        obtain ⟨a, hc⟩ := hf (n, .free) (by simp) rfl
        obtain ⟨cl, e, h1, h2, h3⟩ := ih ((n, a) :: acc) (fun q hq => hf q (List.mem_cons_of_mem _ hq)) (fun x b hx => by
          simp only [List.lookup_cons] at hx
          split at hx
          · rename_i hxn
            have : x = n := by simpa using hxn
            subst this; cases hx; exact hc
          · exact ha x b hx)
        refine ⟨cl, ?_, h1, fun x hx => h2 x ?_, fun q hq hqf => ?_⟩
        · rw [List.forIn_cons]
          simp only [beq_self_eq_true, if_true, cellOf, hc, pure_bind]
          exact e
        · simp only [List.lookup_cons]; split
          · rfl
          · exact hx
        · rcases List.mem_cons.mp hq with rfl | hq
          · exact h2 n (by simp)
          · exact h3 q hq hqf
      · obtain ⟨cl, e, h1, h2, h3⟩ := ih acc (fun q hq => hf q (List.mem_cons_of_mem _ hq)) ha
        refine ⟨cl, ?_, h1, h2, fun q hq hqf => ?_⟩
        · rw [List.forIn_cons]
          have : (k == NameKind.free) = false := by simpa using hk
          simp only [this, Bool.false_eq_true, if_false, pure_bind]
          exact e
        · rcases List.mem_cons.mp hq with rfl | hq
          · exact absurd hqf hk
          · exact h3 q hq hqf
  obtain ⟨cl, e, h1, _, h3⟩ := key scope.names [] h (by simp)
  refine ⟨cl, ?_, fun p hp hf => ?_⟩
  · simp only [closureFor]
    exact (congrArg (· >>= _) e).trans rfl
  · have := h3 p hp hf
    cases hc : cl.lookup p.1 with
    | none => rw [hc] at this; cases this
    | some a => exact ⟨a, rfl, h1 _ _ hc⟩

noncomputable def rl (env : Env) (p : Str × NameKind) : Str × NameKind := (p.1, if (p.2 == .free && env.scope.kind == .function && env.kindOf p.1 == some .cell) then .cell else p.2)
theorem relabel_names (scope : Scope) (env : Env) : (relabel scope env).names = scope.names.map (rl env) := by
  simp only [relabel]
  refine List.map_congr_left fun p _ => ?_
  obtain ⟨n, k⟩ := p
  simp only [rl]
  split <;> rfl
theorem lookup_rl {env : Env} : ∀ {names : List (Str × NameKind)} {x : Str} {k : NameKind}, names.lookup x = some k → ∃ n, (x == n) = true ∧ (names.map (rl env)).lookup x = some (rl env (n, k)).2
  | [], _, _, h => by simp at h
  | (n, k') :: r, x, k, h => by
    rw [List.map_cons]
    have e : rl env (n, k') = (n, (rl env (n, k')).2) := rfl
    rw [e]
    simp only [List.lookup_cons] at h ⊢
    cases hx : x == n with
    | true => rw [hx] at h; simp only at h ⊢; cases h; exact ⟨n, hx, rfl⟩
    | false => rw [hx] at h; simp only at h ⊢; exact lookup_rl h
theorem lookup_relabel {scope : Scope} {env : Env} {x : Str} {k : NameKind} (h : scope.names.lookup x = some k) (hk : k ≠ .free) : (relabel scope env).names.lookup x = some k := by
  rw [relabel_names]
  obtain ⟨n, _, e⟩ := lookup_rl (env := env) h
  rw [e]
  have : (k == NameKind.free) = false := by simpa using hk
  simp [rl, this]
theorem lookup_relabel_free {scope : Scope} {env : Env} {x : Str} (h : scope.names.lookup x = some .free) : (relabel scope env).names.lookup x = some .cell ∨ (relabel scope env).names.lookup x = some .free := by
  rw [relabel_names]
  obtain ⟨n, _, e⟩ := lookup_rl (env := env) h
  rw [e]
  simp only [rl]
  split
  · exact .inl rfl
  · exact .inr rfl

end Mine
end

section
set_option autoImplicit false
namespace Mine
open PySem

theorem mem_lookup {β : Type} : ∀ {l : List (Str × β)} {x : Str} {k : β}, l.lookup x = some k → (x, k) ∈ l
  | [], _, _, h => by simp at h
  | (n, k') :: r, x, k, h => by
    simp only [List.lookup_cons] at h
    cases hx : x == n with
    | true =>
      rw [hx] at h; simp only at h; cases h
      have : x = n := by simpa using hx
      subst this; simp
    | false => rw [hx] at h; simp only at h; exact List.mem_cons_of_mem _ (mem_lookup h)

theorem lookup_zip : ∀ {xs : List Str} {u : Nat} {x : Str} {i : Nat}, (xs.zip (List.range' u xs.length)).lookup x = some i → ∃ j, xs[j]? = some x ∧ i = u + j
  | [], _, _, _, h => by simp at h
  | y :: ys, u, x, i, h => by
    simp only [List.length_cons, List.range'_succ, List.zip_cons_cons, List.lookup_cons] at h
    cases hx : x == y with
    | true =>
      rw [hx] at h; simp only at h; cases h
      have : x = y := by simpa using hx
      subst this; exact ⟨0, rfl, rfl⟩
    | false =>
      rw [hx] at h; simp only at h
      obtain ⟨j, h1, h2⟩ := lookup_zip h
      exact ⟨j + 1, by simpa using h1, by omega⟩
theorem lookup_filter {q : Str → Bool} : ∀ {l : List (Str × Nat)} {x : Str} {i : Nat}, (l.filter fun p => q p.1).lookup x = some i → q x = true ∧ l.lookup x = some i
  | [], _, _, h => by simp at h
  | (n, k) :: r, x, i, h => by
    rw [List.filter_cons] at h
    split at h
    · rename_i hq
      simp only [List.lookup_cons] at h ⊢
      cases hx : x == n with
      | true =>
        rw [hx] at h; simp only at h ⊢
        have : x = n := by simpa using hx
        subst this; exact ⟨hq, h⟩
      | false => rw [hx] at h; simp only at h ⊢; exact lookup_filter h
    · rename_i hq
      obtain ⟨h1, h2⟩ := lookup_filter h
      refine ⟨h1, ?_⟩
      simp only [List.lookup_cons]
      cases hx : x == n with
      | true =>
        have : x = n := by simpa using hx
        subst this; exact absurd h1 hq
      | false => exact h2

structure TableOk (c : Sc) (xs : List Str) (sc : Scope) : Prop where
  kind : sc.kind = .function
  loc : ∀ x ∈ xs, sc.names.lookup x = some .local
  nd : xs.Nodup
  names : ∀ p ∈ sc.names, (p.2 = .local) ∨ (p.2 = .free ∧ sc.names.lookup p.1 = some .free ∧ (∃ i, c.σ.lookup p.1 = some i) ∧ (c.names.lookup p.1 = some .cell ∨ c.names.lookup p.1 = some .free) ∧ (p.1 == ("__classdict__" : Str)) = false) ∨ p.2 = .globalImplicit
  nodup : (sc.names.map (·.1)).Nodup
theorem tableOk_eq {c : Sc} {xs : List Str} {sc : Scope} (h : tableOk c xs sc = true) : TableOk c xs sc := by
  unfold tableOk at h
  simp only [Bool.and_eq_true, decide_eq_true_eq, List.all_eq_true] at h
  obtain ⟨⟨⟨⟨h1, h2⟩, h3⟩, h4⟩, h5⟩ := h
  refine ⟨h1, fun x hx => (h2 x hx).1, h3, fun p hp => ?_, h5⟩
  have := h4 p hp
  split at this
  · rename_i e; exact .inl e
  · rename_i e
    simp only [Bool.and_eq_true, Bool.or_eq_true, decide_eq_true_eq, Bool.not_eq_true'] at this
    exact .inr (.inl ⟨e, this.1.1.1, Option.isSome_iff_exists.mp this.1.1.2, this.1.2, this.2⟩)
  · rename_i e; exact .inr (.inr e)
  · cases this
theorem nodup_lookup {β : Type} : ∀ {l : List (Str × β)} {p : Str × β}, (l.map (·.1)).Nodup → p ∈ l → l.lookup p.1 = some p.2
  | [], _, _, h => by simp at h
  | (n, k) :: r, p, hn, h => by
    simp only [List.map_cons, List.nodup_cons] at hn
    rcases List.mem_cons.mp h with rfl | h
    · simp
    · simp only [List.lookup_cons]
      cases hx : p.1 == n with
      | true =>
        have : p.1 = n := by simpa using hx
        exact absurd (this ▸ List.mem_map.mpr ⟨p, h, rfl⟩) hn.1
      | false => exact nodup_lookup hn.2 h

theorem env_comp {env : Env} {c : Sc} {lay : Nat → Option Place} {xs : List Str} {sc : Scope} {cl : List (Str × Addr)} {C : Addr} (O : EnvOk env c.names c.σ lay) (hus : ∀ i p, lay i = some p → i < c.used) (ht : TableOk c xs sc)
    (hcl : ∀ p ∈ sc.names, p.2 = .free → ∃ a, cl.lookup p.1 = some a ∧ env.cells.lookup p.1 = some a) : EnvOk (compEnvC sc cl C env) (inner c xs sc.names).names (inner c xs sc.names).σ (layC c.used C xs lay) where
  kind := ht.kind
  glob := O.glob
  blt := O.blt
  gl := fun x h => lookup_relabel h (by simp)
  lc := fun x h => lookup_relabel h (by simp)
  ce := fun x h => lookup_relabel h (by simp)
  fr := fun x h => lookup_relabel_free h
  vars := fun x i h => by
    have h : ((xs.zip (List.range' c.used xs.length)) ++ c.σ.filter (fun p => decide (sc.names.lookup p.1 = some .free))).lookup x = some i := h
    rw [List.lookup_append] at h
    cases hz : (xs.zip (List.range' c.used xs.length)).lookup x with
    | some j =>
      rw [hz] at h; simp at h; subst h
      obtain ⟨k, hk, rfl⟩ := lookup_zip hz
      refine ⟨.loc C x, ?_, .inl ⟨lookup_relabel (ht.loc x (List.mem_of_getElem? hk)) (by simp), rfl⟩⟩
      unfold layC
      rw [if_neg (by omega), show c.used + k - c.used = k by omega, hk]; rfl
    | none =>
      rw [hz] at h; simp only [Option.none_or] at h
      obtain ⟨hq, hσ⟩ := lookup_filter (q := fun y => decide (sc.names.lookup y = some .free)) h
      have hq : sc.names.lookup x = some .free := by simpa using hq
      have hm := mem_lookup hq
      obtain ⟨a, h1, h2⟩ := hcl _ hm rfl
      have hk : (x == ("__classdict__" : Str)) = false ∧ (env.kindOf x = some .cell ∨ env.kindOf x = some .free) := by
        rcases ht.names _ hm with e | ⟨_, _, _, e, e'⟩ | e
        · cases e
        · exact ⟨e', e.elim (fun q => .inl (O.ce x q)) (O.fr x)⟩
        · cases e
      obtain ⟨p, hp, hc⟩ := O.vars x i hσ
      have hlt := hus i p hp
      rcases hc with ⟨hl, _⟩ | ⟨_, _, c', hc', rfl⟩
      · rcases hk.2 with q | q <;> rw [hl] at q <;> cases q
      · rw [h2] at hc'; cases hc'
        exact ⟨.cell a, by unfold layC; rw [if_pos hlt]; exact hp, .inr ⟨lookup_relabel_free hq, hk.1, a, h1, rfl⟩⟩

theorem bindT_agree {t : Tg} {u : Nat} {xs : List Str} {v : V} {ρ ρ₁ ρ' ρ₁' : List (Option V)} (ht : tgIs u t xs = true) (hl : ρ.length = ρ₁.length) (hag : ∀ i, i < u → ρ[i]? = ρ₁[i]?) (hb : bindT t v ρ = some ρ') (hb₁ : bindT t v ρ₁ = some ρ₁') :
    ∀ i, i < u + xs.length → ρ'[i]? = ρ₁'[i]? := by
  intro i hi
  cases t with
  | var iv =>
    obtain ⟨k1, k2⟩ := (Bool.and_eq_true _ _).mp ht
    rw [eq_of_beq k1] at hb hb₁
    rw [eq_of_beq k2] at hi
    simp only [bd_var, bd_tup, bd_none, bd_bool, bd_int, bd_str, bd_lst, bd_ref, bd_inst, bd_iref] at hb hb₁
    split at hb
    · rename_i h1
      rw [if_pos (by omega)] at hb₁
      cases hb; cases hb₁
      by_cases e : i = u
      · subst e; rw [List.getElem?_set_self h1, List.getElem?_set_self (by omega)]
      · rw [List.getElem?_set_ne (Ne.symm e), List.getElem?_set_ne (Ne.symm e)]; exact hag i (by omega)
    · cases hb
  | tup is =>
    obtain ⟨k1, k2⟩ := (Bool.and_eq_true _ _).mp ht
    rw [of_decide_eq_true k1] at hb hb₁
    rw [eq_of_beq k2] at hi
    cases v with
    | tup vs =>
      simp only [bd_var, bd_tup, bd_none, bd_bool, bd_int, bd_str, bd_lst, bd_ref, bd_inst, bd_iref] at hb hb₁
      match vs with
      | [p, q] =>
        simp only [sa_nil, sa_cons, sa_l, sa_r, List.length_set] at hb hb₁
        split at hb
        · rename_i h1
          split at hb
          · rename_i h2
            rw [if_pos (by omega), if_pos (by omega)] at hb₁
            cases hb; cases hb₁
            by_cases e : i = u + 1
            · subst e; rw [List.getElem?_set_self (by simpa using h2), List.getElem?_set_self (by simpa using by omega)]
            · rw [List.getElem?_set_ne (Ne.symm e), List.getElem?_set_ne (Ne.symm e)]
              by_cases e' : i = u
              · subst e'; rw [List.getElem?_set_self h1, List.getElem?_set_self (by omega)]
              · rw [List.getElem?_set_ne (Ne.symm e'), List.getElem?_set_ne (Ne.symm e')]; exact hag i (by omega)
          · cases hb
        · cases hb
      | [] => simp [sa_nil, sa_cons, sa_l, sa_r] at hb
      | [_] => simp [sa_nil, sa_cons, sa_l, sa_r] at hb
      | _ :: _ :: _ :: _ => simp [sa_nil, sa_cons, sa_l, sa_r] at hb
    | _ => simp [bd_var, bd_tup, bd_none, bd_bool, bd_int, bd_str, bd_lst, bd_ref, bd_inst, bd_iref] at hb
theorem setAll_ok : ∀ {is : List Nat} {vs : List V} {ρ ρ₁ ρ' : List (Option V)}, ρ.length = ρ₁.length → setAll is vs ρ = some ρ' → ∃ ρ₁', setAll is vs ρ₁ = some ρ₁'
  | [], [], _, ρ₁, _, _, _ => ⟨ρ₁, rfl⟩
  | [], _ :: _, _, _, _, _, h => by simp [sa_nil, sa_cons, sa_l, sa_r] at h
  | _ :: _, [], _, _, _, _, h => by simp [sa_nil, sa_cons, sa_l, sa_r] at h
  | i :: is, v :: vs, ρ, ρ₁, ρ', hl, h => by
    simp only [sa_nil, sa_cons, sa_l, sa_r] at h ⊢
    split at h
    · rename_i hi
      rw [if_pos (by omega)]
      exact setAll_ok (by simpa using hl) h
    · cases h
theorem bindT_ok {t : Tg} {v : V} {ρ ρ₁ ρ' : List (Option V)} (hl : ρ.length = ρ₁.length) (hb : bindT t v ρ = some ρ') : ∃ ρ₁', bindT t v ρ₁ = some ρ₁' := by
  cases t with
  | var i =>
    simp only [bd_var, bd_tup, bd_none, bd_bool, bd_int, bd_str, bd_lst, bd_ref, bd_inst, bd_iref] at hb ⊢
    split at hb
    · rw [if_pos (by omega)]; exact ⟨_, rfl⟩
    · cases hb
  | tup is => cases v <;> simp [bd_var, bd_tup, bd_none, bd_bool, bd_int, bd_str, bd_lst, bd_ref, bd_inst, bd_iref] at hb ⊢; exact setAll_ok hl hb
theorem wipe_lo {u i : Nat} {ρ : List (Option V)} (h : i < u) : (wipe u ρ)[i]? = ρ[i]? := by
  unfold wipe
  rcases Nat.lt_or_ge i ρ.length with hi | hi
  · rw [List.getElem?_append_left (by simp; omega), List.getElem?_take, if_pos h]
  · rw [List.getElem?_eq_none hi, List.getElem?_eq_none (by simp; omega)]

end Mine
end

section
set_option autoImplicit false
namespace Mine
open PySem

theorem lookup_zip_some {β : Type} : ∀ {names : List Str} {vals : List β} {x : Str}, names.length = vals.length → x ∈ names → ((names.zip vals).lookup x).isSome
  | [], _, _, _, h => by simp at h
  | _ :: _, [], _, hl, _ => by simp at hl
  | n :: ns, v :: vs, x, hl, h => by
    simp only [List.zip_cons_cons, List.lookup_cons]
    cases hx : x == n with
    | true => rfl
    | false =>
      have hne : x ≠ n := by simpa using hx
      exact lookup_zip_some (by simpa using hl) ((List.mem_cons.mp h).resolve_left hne)

theorem fm_zip {β : Type} : ∀ {names : List Str} {vals : List β}, names.length = vals.length → names.Nodup → names.filterMap (fun n => ((names.zip vals).lookup n).map (fun v => (n, v))) = names.zip vals := by
  have key : ∀ (names : List Str) (vals : List β) (full : List (Str × β)), names.length = vals.length → names.Nodup → (∀ n v, (n, v) ∈ names.zip vals → full.lookup n = some v) → names.filterMap (fun n => (full.lookup n).map (fun v => (n, v))) = names.zip vals := by
    intro names
    induction names with
    | nil => intro vals full hl _ _; rfl
    | cons n ns ih =>
      intro vals full hl hn hf
      cases vals with
      | nil => simp at hl
      | cons v vs =>
        rw [List.nodup_cons] at hn
        rw [List.filterMap_cons, hf n v (by simp)]
        simp only [Option.map_some, List.zip_cons_cons]
        rw [ih vs full (by simpa using hl) hn.2 fun m w hm => hf m w (by simp [hm])]
  intro names vals hl hn
  refine key names vals _ hl hn fun n v hm => ?_
  have hnz : ((names.zip vals).map (·.1)).Nodup := by
    have e : (names.zip vals).map (·.1) = names := by rw [List.map_fst_zip]; omega
    rw [e]; exact hn
  exact nodup_lookup hnz hm

theorem bp_key {nm qn : Str} {ar : List Arg} {kd : List (Option Expr)} {df : List Expr} {body : FuncBody} {sc : Scope} {gl : Addr} {cl : List (Str × Addr)} {kdv doc pm : Value} {an : Option Addr} {code ct : Value} {bl : Addr} {vals : List Value}
   (h1 : (decide (vals.length > (ar.map Arg.arg).length) && true) = false) (h2 : ((((ar.map Arg.arg).take ((ar.map Arg.arg).length)).filter fun n => (((ar.map Arg.arg).zip vals).lookup n).isNone).isEmpty) = true) :
   bindArgs ⟨nm, qn, ⟨[], ar, none, [], kd, none, df⟩, body, sc, gl, cl, .none, kdv, doc, pm, an, code, ct, bl⟩ ⟨vals, []⟩ = pure ((ar.map Arg.arg ++ []).filterMap fun n => (((ar.map Arg.arg).zip vals).lookup n).map (n, ·)) := by
  have hd : ([] : List Value).drop (0 - (ar.map Arg.arg).length) = [] := List.drop_nil
  have key : ∀ ds : List Value, ds = [] → ∀ a b : Sem (List (Str × Value)), (if (decide (vals.length > (ar.map Arg.arg).length) && true) = true then a else 
     if (!(((ar.map Arg.arg).take ((ar.map Arg.arg).length - ds.length)).filter fun n => (((ar.map Arg.arg).zip vals).lookup n).isNone).isEmpty) = true then b else
       (forIn (((ar.map Arg.arg).drop ((ar.map Arg.arg).length - ds.length)).zip ds) ((ar.map Arg.arg).zip vals) (fun (x : Str × Value) r => if (r.lookup x.1).isNone = true then pure (ForInStep.yield (r ++ [(x.1, x.2)])) else pure (ForInStep.yield r))) >>= fun slots => pure ((ar.map Arg.arg ++ []).filterMap fun n => (slots.lookup n).map (n, ·)))
       = pure ((ar.map Arg.arg ++ []).filterMap fun n => (((ar.map Arg.arg).zip vals).lookup n).map (n, ·)) := by
    rintro _ rfl a b
    rw [h1]
    show (if (!(((ar.map Arg.arg).take ((ar.map Arg.arg).length)).filter fun n => (((ar.map Arg.arg).zip vals).lookup n).isNone).isEmpty) = true then b else _) = _
    rw [h2, List.zip_nil_right]
    rfl
  exact key _ hd _ _

theorem bind_plain {fd : FuncData} {vals : List Value} {names : List Str} (hp : fd.params.posonlyargs = []) (ha : fd.params.args.map (·.arg) = names) (hk : fd.params.kwonlyargs = []) (hv : fd.params.vararg = none) (hkw : fd.params.kwarg = none) (hd : fd.defaults = .none)
    (hl : names.length = vals.length) (hn : names.Nodup) : bindArgs fd ⟨vals, []⟩ = pure (names.zip vals) := by
  have h1 : ¬ (vals.length > names.length) := by omega
  have h2 : names.filter (fun n => ((names.zip vals).lookup n).isNone) = [] := by
    rw [List.filter_eq_nil_iff]
    intro x hx
    have := lookup_zip_some hl hx
    cases e : (names.zip vals).lookup x with
    | none => rw [e] at this; cases this
    | some v => simp
  rcases fd with ⟨nm, qn, ⟨po, ar, va, ko, kd, kw, df⟩, body, sc, gl, cl, dv, kdv, doc, pm, an, code, ct, bl⟩
  dsimp only at hp ha hk hv hkw hd
  subst hp ha hk hv hkw hd
  rw [bp_key (by rw [decide_eq_false h1]; rfl) (by rw [List.take_length]; exact congrArg List.isEmpty h2), List.append_nil]
  exact congrArg pure (fm_zip hl hn)

end Mine
end

section
set_option autoImplicit false
namespace Mine
open PySem PyProof.Rows
/-! things of an own class: what its __init__ leaves -/
theorem lk_put {β : Type} {f : Str} {v : β} {y : Str} : ∀ {l : List (Str × β)}, f ∉ l.map (·.1) → (l ++ [(f, v)]).lookup y = if y = f then some v else l.lookup y := by
  intro l
  induction l with
  | nil =>
    intro _
    by_cases e : y = f
    · subst e; simp
    · simp [List.lookup_cons, e, beq_eq_false_iff_ne.mpr e]
  | cons p l ih =>
    obtain ⟨g, u⟩ := p
    intro h
    rw [List.map_cons, List.mem_cons, not_or] at h
    rw [List.cons_append, List.lookup_cons, List.lookup_cons, ih h.2]
    by_cases e : y = g
    · subst e
      rw [beq_self_eq_true]
      exact (if_neg (fun q => h.1 q.symm)).symm
    · rw [beq_eq_false_iff_ne.mpr e]
theorem lk_mem {β : Type} {y : Str} : ∀ {l : List (Str × β)}, l.lookup y ≠ none → y ∈ l.map (·.1) := by
  intro l
  induction l with
  | nil => intro h; exact absurd rfl h
  | cons p l ih =>
    obtain ⟨g, u⟩ := p
    intro h
    rw [List.lookup_cons] at h
    by_cases e : y = g
    · rw [e]; exact List.mem_cons_self ..
    · rw [beq_eq_false_iff_ne.mpr e] at h
      exact List.mem_cons_of_mem _ (ih h)
section
variable {prog : Program} {w : World} {A : Around} {E : Value → Shared → Prop}
theorem iv_run {env : Env} {m : Str → Option Value} {names : List Str} {xv : Value} {vals : List Value} {vs : List V} {N : Addr → Prop} {h₀ : Heap} {i : Ini} {y : Expr} {s : Shared} {Q : Value → Shared → Prop}
    (hk : env.scope.kind = .function) (hloc : ∀ y ∈ names, env.kindOf y = some .local ∧ (y == ("__debug__" : Str)) = false) (hL : s.heap.Ns env.locals m) (hm : ∀ (i : Nat) (y : Str), names[i]? = some y → m y = (xv :: vals)[i]?)
    (hn : names.length = vals.length + 1) (r : RVs N h₀ vs vals) (hc : chkIv names i y = true) (hQ : ∀ val tk, RV N h₀ (iniV vs i) val → Q val { s with toks := tk }) : wpAny (model prog w) A (eval y env) Q E s := by
  cases i with
  | arg i =>
    have q_ := onName_inv hc; clear hc; obtain ⟨z, p, rfl, hz⟩ := q_
    have hz := of_decide_eq_true hz
    have hl := hloc z (List.mem_of_getElem? hz)
    have e := hm _ _ hz
    have hi : i < vs.length := by
      have := (List.getElem?_eq_some_iff.mp hz).1
      rw [hn] at this
      rw [r.length]
      exact Nat.lt_of_succ_lt_succ this
    obtain ⟨val, hv, rv⟩ := r.get i (List.getElem?_eq_getElem hi)
    have e : m z = some val := e.trans hv
    refine wpAny_Name (wpAny_loadName_local hk hl.1 hL e ?_) hl.2
    refine hQ val s.toks ?_
    show RV N h₀ ((vs[i]?).getD .none) val
    rw [List.getElem?_eq_getElem hi]; exact rv
  | val v =>
    have q_ := onConst_inv hc; clear hc; obtain ⟨k, j, p, rfl, hz⟩ := q_
    cases v with
    | none => cases of_decide_eq_true hz; exact wpAny_Constant_none (hQ _ s.toks .none)
    | int i => cases of_decide_eq_true hz; exact wpAny_Constant_int (hQ _ _ (.int i _))
    | _ => exact ff hz
theorem chkIv_comp {names : List Str} {i : Ini} {y : Expr} (h : chkIv names i y = true) (t : Option Expr) (l : Nat) (env : Env) : swapsWith y t l env = pure false := by
  cases i with
  | arg i => obtain ⟨z, p, rfl, _⟩ := onName_inv h; rfl
  | val v => obtain ⟨k, j, p, rfl, _⟩ := onConst_inv h; rfl
theorem InsX.inst {h : Heap} {x a C : Addr} {m : Str → Option Value} (i : InsX h x a C) (n : h.Ns1 a m) : h.Inst x C m := by
  obtain ⟨o, h1, h2, h3, h4, h5⟩ := i
  exact ⟨o, h1, h2, h3, .inr ⟨a, h4, h5, n⟩⟩

theorem fs_run {env : Env} {m mN : Str → Option Value} {names : List Str} {self : Str} {x dx C N0 : Addr} {vals : List Value} {vs : List V} {N : Addr → Prop} {h₀ : Heap} {Q : Flow → Shared → Prop}
    (hk : env.scope.kind = .function) (hloc : ∀ y ∈ names, env.kindOf y = some .local ∧ (y == ("__debug__" : Str)) = false) (hm : ∀ (i : Nat) (y : Str), names[i]? = some y → m y = (Value.ref x :: vals)[i]?)
    (hn : names.length = vals.length + 1) (h0 : names[0]? = some self) (r : RVs N h₀ vs vals) (X : ClsAt h₀ C N0 mN) (hsa : mN "__setattr__" = none) (hx : h₀.get? x = none) (hd : h₀.get? dx = none) (hLx : env.locals ≠ x) (hLd : env.locals ≠ dx) :
    ∀ (fs : List (String × Ini)) (body : List Stmt) (l : List (Str × Value)) (s : Shared), chkFs self names fs body = true → (∀ f ∈ fs, mN (Str.ofString f.1) = none) → (∀ f ∈ fs, typeLookup (.type "object") (Str.ofString f.1) = pure none) →
      (l.map (·.1) ++ fs.map fun f => Str.ofString f.1).Nodup → l.length + fs.length ≤ 50 → HK h₀ s.heap → s.heap.Ns env.locals m → InsX s.heap x dx C → s.heap.Ns1 dx (fun y => l.lookup y) →
      (∀ ys h' tk, HK h₀ h' → InsX h' x dx C → h'.Ns1 dx (fun y => (l ++ ys).lookup y) → ys.map (·.1) = (fs.map fun f => Str.ofString f.1) → RVs N h₀ (fs.map fun f => iniV vs f.2) (ys.map (·.2)) → Q .next { s with heap := h', toks := tk }) →
      wpAny (model prog w) A (execs body env) Q E s := by
  intro fs
  induction fs with
  | nil =>
    intro body l s hc _ _ _ _ kk _ hi hn1 hQ
    cases body with
    | cons => exact ff hc
    | nil => exact wpAny_execs_nil (hQ [] s.heap s.toks kk hi (by rw [List.append_nil]; exact hn1) rfl .nil)
  | cons f fs ih =>
    intro body l s hc hq hB hnd hsz kk hL hi hn1 hQ
    cases body with
    | nil => exact ff hc
    | cons b body =>
      have q_ := (Bool.and_eq_true _ _).mp hc; clear hc; obtain ⟨h1, h2⟩ := q_
      have q_ := onAssign_inv h1; clear h1; obtain ⟨tg, y, p, rfl, h1⟩ := q_
      have q_ := onAttr_inv h1; clear h1; obtain ⟨o, a, ap, rfl, h1⟩ := q_
      have q_ := (Bool.and_eq_true _ _).mp h1; clear h1; obtain ⟨h1, hv⟩ := q_
      have q_ := (Bool.and_eq_true _ _).mp h1; clear h1; obtain ⟨h1, ha⟩ := q_
      cases of_decide_eq_true ha
      have q_ := onName_inv h1; clear h1; obtain ⟨z, zp, rfl, hz⟩ := q_
      cases of_decide_eq_true hz
      refine wpAny_execs_cons (plainObj_wpAny_Assign_Attribute ?_ (chkIv_comp hv _ _ _))
      refine iv_run hk hloc hL hm hn r hv fun val tk rv => ?_
      have hl := hloc self (List.mem_of_getElem? h0)
      refine wpAny_Name (wpAny_loadName_local hk hl.1 (s := { s with toks := tk }) hL (hm 0 _ h0) ?_) hl.2
      obtain ⟨nm, q, bs, sn, sub, col, dd, k0, k1, k2, k3, k5, hC⟩ := (X.keeps kk).obj
      obtain ⟨ox, g1, g2, g3, g4, g5⟩ := id hi
      have hxC : x ≠ C := by
        obtain ⟨_, _, _, _, _, _, _, _, _, _, _, _, e⟩ := X.obj
        rintro rfl; rw [hx] at e; cases e
      have hf : Str.ofString f.1 ∉ l.map (·.1) := fun hm => by
        rw [List.nodup_append] at hnd
        exact hnd.2.2 _ hm _ (List.mem_cons_self ..) rfl
      refine store_attr (ns := l.map (·.1)) PySem.F.store_object hC (X.keeps kk).ns hsa (hq f (List.mem_cons_self ..)) (hB f (List.mem_cons_self ..)) hxC (hi.inst hn1) (fun h' tk' I' hk' hsame => ?_) (fun y hy => lk_mem hy) (by rw [List.length_map, sizeLine_eq]; simp only [List.length_cons] at hsz; omega)
      have kk2 : ∀ b o, b ≠ x → b ≠ dx → s.heap.get? b = some o → h'.get? b = some o := fun b o n1 n2 e => hk' b o n1 (fun o₀ d' e₀ ed => by
        obtain rfl := Option.some.inj (g1.symm.trans e₀); obtain rfl := Option.some.inj (g4.symm.trans ed); exact n2) e
      have kk0 : HK h₀ h' := fun b o e => kk2 b o (by rintro rfl; rw [hx] at e; cases e) (by rintro rfl; rw [hd] at e; cases e) (kk b o e)
      obtain ⟨o₁, e₁, c₁, dt₁, _, dk₁⟩ := hsame ox g1
      have hi' : InsX h' x dx C := ⟨o₁, e₁, c₁.trans g2, fun c => by rw [dt₁]; exact g3 c, dk₁ dx g4, g5⟩
      have hn1' : h'.Ns1 dx (fun y => (l ++ [(Str.ofString f.1, val)]).lookup y) := by
        obtain ⟨o', e', _, _, hd'⟩ := I'
        obtain rfl := Option.some.inj (e₁.symm.trans e')
        rcases hd' with ⟨hn0, _⟩ | ⟨d', hd', _, hns'⟩
        · rw [dk₁ dx g4] at hn0; cases hn0
        · obtain rfl := Option.some.inj ((dk₁ dx g4).symm.trans hd')
          have e : (fun y => (l ++ [(Str.ofString f.1, val)]).lookup y) = fun y => if y = Str.ofString f.1 then some val else l.lookup y := funext fun y => lk_put hf
          rw [e]; exact hns'
      have hL' : h'.Ns env.locals m := by
        obtain ⟨oL, es, ep, eL, rL⟩ := hL
        exact ⟨oL, es, ep, kk2 _ _ hLx hLd eL, rL⟩
      refine ih body (l ++ [(Str.ofString f.1, val)]) { s with heap := h', toks := tk' } h2 (fun g hg => hq g (List.mem_cons_of_mem _ hg)) (fun g hg => hB g (List.mem_cons_of_mem _ hg)) (by rw [List.map_append, List.append_assoc]; exact hnd) (by rw [List.length_append]; simp only [List.length_cons, List.length_nil] at hsz ⊢; omega) kk0 hL' hi' hn1' fun ys h'' tk'' q1 q2 q3 q4 q5 => ?_
      exact hQ ((Str.ofString f.1, val) :: ys) h'' tk'' q1 q2 (by rw [← List.append_cons] at q3; exact q3) (by rw [List.map_cons, q4, List.map_cons]) (.cons rv q5)
/-- a thing is made -/
theorem new_call {C N0 : Addr} {mN : Str → Option Value} {n : Nat} {fs : List (String × Ini)} {vs : List V} {vals : List Value} {N : Addr → Prop} {s : Shared} {Q : Value → Shared → Prop}
    (R : CRow s.heap C N0 mN n fs) (hlim : s.heap.NoLimit) (hroom : A.depth + 1 < recursionLimit) (hl : vals.length = n) (r : RVs N s.heap vs vals)
    (hQ : ∀ x dx h' tk ys, HK s.heap h' → s.heap.get? x = none → s.heap.get? dx = none → x ≠ dx → InsX h' x dx C → NsOf h' dx (fs.map (·.1)) ys → RVs N s.heap (fs.map fun f => iniV vs f.2) ys → Q (.ref x) { s with heap := h', toks := tk }) :
    wpAny (model prog w) A (call (.ref C) vals) Q E s := by
  obtain ⟨hh, g, d, t, os⟩ := s
  obtain ⟨nm, q, bs, sn, sub, col, dd, k0, k1, k2, k3, k5, hC⟩ := R.cls.obj
  obtain ⟨fI, oI, pm, cdv, doc, qual, params, body, scope, h1, h2, h3, h4, h5, h6⟩ := R.ini
  unfold chkIni at h6
  have q_ := (Bool.and_eq_true _ _).mp h6; clear h6; obtain ⟨h6, hfs⟩ := q_
  simp only [plainParams, Bool.and_eq_true, decide_eq_true_eq, List.all_eq_true, Bool.not_eq_true', decide_eq_false_iff_not, List.isEmpty_iff, Option.isNone_iff_eq_none] at h6
  obtain ⟨⟨⟨⟨⟨⟨⟨⟨⟨⟨⟨⟨⟨⟨p1, p2⟩, p3⟩, p4⟩, p5⟩, p6⟩, hn⟩, hnd⟩, hloc⟩, hk⟩, hgen⟩, hco⟩, hcell⟩, hfd⟩, hf50⟩ := h6
  refine wpAny_call_obj_init PySem.F.objNew hC R.cls.ns h1 h2 h3 fun h' x dx Mk => ?_
  have hlen : (params.args.map (·.arg)).length = (Value.ref x :: vals).length := by rw [List.length_map, hn, List.length_cons, hl]
  refine wpAny_call (codeAny_call_def (fd := methDef "__init__" qual params body scope pm cdv doc) (body := body) (binds := (params.args.map (·.arg)).zip (.ref x :: vals)) hroom (Mk.keeps _ _ h2) h4 (hlim.keeps Mk.keeps) (h5.keeps Mk.keeps) rfl
    (.of_eq (bind_plain p1 rfl p3 p2 p4 rfl hlen hnd)) hcell (fun y hy => (hloc _ (List.of_mem_zip hy).1).1) (fun h₁ hns hk₁ => ?_) hco hgen hk)
  obtain ⟨ox, hx, hcx, hncx, hdx⟩ := Mk.inst
  have hdd := Mk.dict ox hx
  obtain ⟨hnsd, hne⟩ : (h'.Ns1 dx fun _ => none) ∧ dx ≠ x := by
    rcases hdx with ⟨hn0, _⟩ | ⟨d', hd', hne', hns'⟩
    · rw [hn0] at hdd; cases hdd
    · obtain rfl := Option.some.inj (hd'.symm.trans hdd); exact ⟨hns', hne'⟩
  obtain ⟨p0, ps, hps⟩ : ∃ p0 ps, params.args = p0 :: ps := by
    cases hps : params.args with
    | nil => rw [hps] at hn; cases hn
    | cons p0 ps => exact ⟨p0, ps, rfl⟩
  have hfs : chkFs p0.arg (params.args.map Arg.arg) fs body = true := by
    rw [hps] at hfs ⊢; exact hfs
  have hzn : (((params.args.map Arg.arg).zip (Value.ref x :: vals)).reverse.map (·.1)).Nodup := by
    rw [List.map_reverse, List.map_fst_zip (Nat.le_of_eq hlen)]
    exact (List.pairwise_reverse.mpr (hnd.imp Ne.symm))
  refine fs_run (names := params.args.map Arg.arg) (self := p0.arg) (x := x) (dx := dx) (C := C) (N0 := N0) (mN := mN) (m := fun y => ((params.args.map Arg.arg).zip (Value.ref x :: vals)).reverse.lookup y) (vals := vals) (vs := vs) (N := N) (h₀ := hh) (env := callEnv (methDef "__init__" qual params body scope pm cdv doc) h'.objs.size fI)
    hk (fun y hy => hloc y hy) (fun i y hy => ?_) (by rw [hlen]; rfl) (by rw [hps]; rfl) r R.cls R.sa Mk.newX Mk.newD (Ne.symm (Nat.ne_of_lt (Heap.lt_size hx))) (Ne.symm (Nat.ne_of_lt hnsd.lt)) fs body [] _ hfs (fun f hf => (R.qt f hf).1) (fun f hf => (R.qt f hf).2) hfd (by simpa using hf50)
    (fun b o e => hk₁ _ _ (Mk.keeps _ _ e)) hns ⟨ox, hk₁ _ _ hx, hcx, hncx, hdd, hne⟩ (hnsd.keeps hk₁) fun ys h'' tk q1 q2 q3 q4 q5 => ?_
  · have hi : i < (Value.ref x :: vals).length := by rw [← hlen]; exact (List.getElem?_eq_some_iff.mp hy).1
    have hv : (Value.ref x :: vals)[i]? = some (Value.ref x :: vals)[i] := List.getElem?_eq_getElem hi
    rw [hv]
    refine nodup_lookup hzn (p := (y, _)) (List.mem_reverse.mpr ?_)
    refine List.mem_of_getElem? (i := i) ?_
    rw [List.getElem?_zip_eq_some]
    exact ⟨hy, hv⟩
  · refine ⟨rfl, hQ x dx h'' tk (ys.map (·.2)) q1 Mk.newX Mk.newD (Ne.symm hne) q2 ⟨?_, ?_, ?_, ?_⟩ q5⟩
    · have := congrArg List.length q4
      simpa using this.symm
    · rw [List.map_map]; exact hfd
    · simpa using hf50
    · have e : (fs.map (·.1)).map Str.ofString = ys.map (·.1) := by rw [q4, List.map_map]; rfl
      rw [e, show (ys.map (·.1)).zip (ys.map (·.2)) = ys from by rw [List.zip_map', List.map_id'']; exact fun _ => rfl]
      exact q3
end
end Mine
end

section
set_option autoImplicit false
namespace Mine
open PySem PyProof.Rows
theorem memS {β : Type} {x : String} {v : β} : ∀ {l : List (String × β)}, l.lookup x = some v → (x, v) ∈ l := by
  intro l
  induction l with
  | nil => intro h; cases h
  | cons p l ih =>
    obtain ⟨y, u⟩ := p
    intro h
    rw [List.lookup_cons] at h
    by_cases e : x = y
    · rw [e, beq_self_eq_true] at h
      cases h; rw [e]; exact List.mem_cons_self ..
    · rw [beq_eq_false_iff_ne.mpr e] at h
      exact List.mem_cons_of_mem _ (ih h)
theorem attr_mem {n : String} {v : V} : ∀ {ns : List String} {vs : List V}, attrL n ns vs = some v → n ∈ ns := by
  intro ns
  induction ns with
  | nil => intro vs e; cases e
  | cons m ns ih =>
    intro vs e
    cases vs with
    | nil => cases e
    | cons u vs =>
      by_cases h : m = n
      · rw [h]; exact List.mem_cons_self ..
      · have e : (if m = n then some u else attrL n ns vs) = some v := e
        rw [if_neg h] at e
        exact List.mem_cons_of_mem _ (ih e)
theorem set_mem {n : String} {w : V} : ∀ {ns : List String} {vs vs' : List V}, setAttrL n w ns vs = some vs' → n ∈ ns := by
  intro ns
  induction ns with
  | nil => intro vs vs' e; cases e
  | cons m ns ih =>
    intro vs vs' e
    cases vs with
    | nil => cases e
    | cons u vs =>
      by_cases h : m = n
      · rw [h]; exact List.mem_cons_self ..
      · have e : (if m = n then some (w :: vs) else (setAttrL n w ns vs).map (u :: ·)) = some vs' := e
        rw [if_neg h] at e
        cases q : setAttrL n w ns vs with
        | none => rw [q] at e; cases e
        | some z => exact List.mem_cons_of_mem _ (ih q)
theorem attr_get {N : Addr → Prop} {h : Heap} {n : String} {v : V} : ∀ {ns : List String} {vs : List V} {xs : List Value}, attrL n ns vs = some v → RVs N h vs xs → (ns.map Str.ofString).Nodup → ∃ val, ((ns.map Str.ofString).zip xs).lookup (Str.ofString n) = some val ∧ RV N h v val := by
  intro ns
  induction ns with
  | nil => intro vs xs e; cases e
  | cons m ns ih =>
    intro vs xs e r hn
    cases r with
    | nil => cases e
    | cons r1 r2 =>
      rename_i u vs x xs
      have e : (if m = n then some u else attrL n ns vs) = some v := e
      rw [List.map_cons, List.nodup_cons] at hn
      rw [List.map_cons, List.zip_cons_cons, List.lookup_cons]
      by_cases hm : m = n
      · rw [if_pos hm] at e; cases e
        rw [hm, beq_self_eq_true]
        exact ⟨x, rfl, r1⟩
      · rw [if_neg hm] at e
        have hne : Str.ofString n ≠ Str.ofString m := fun q => hn.1 (q ▸ List.mem_map.mpr ⟨n, attr_mem e, rfl⟩)
        rw [beq_eq_false_iff_ne.mpr hne]
        exact ih e r2 hn.2
theorem attr_set {N : Addr → Prop} {h : Heap} {n : String} {w : V} {val : Value} (rw' : RV N h w val) : ∀ {ns : List String} {vs vs' : List V} {xs : List Value}, setAttrL n w ns vs = some vs' → RVs N h vs xs → (ns.map Str.ofString).Nodup →
    ∃ xs', RVs N h vs' xs' ∧ xs'.length = xs.length ∧ ∀ y, (if y = Str.ofString n then some val else ((ns.map Str.ofString).zip xs).lookup y) = ((ns.map Str.ofString).zip xs').lookup y := by
  intro ns
  induction ns with
  | nil => intro vs vs' xs e; cases e
  | cons m ns ih =>
    intro vs vs' xs e r hn
    cases r with
    | nil => cases e
    | cons r1 r2 =>
      rename_i u vs x xs
      have e : (if m = n then some (w :: vs) else (setAttrL n w ns vs).map (u :: ·)) = some vs' := e
      rw [List.map_cons, List.nodup_cons] at hn
      by_cases hm : m = n
      · rw [if_pos hm] at e; cases e
        refine ⟨val :: xs, .cons rw' r2, rfl, fun y => ?_⟩
        rw [List.map_cons, List.zip_cons_cons, List.zip_cons_cons, List.lookup_cons, List.lookup_cons, hm]
        by_cases hy : y = Str.ofString n
        · rw [if_pos hy, hy, beq_self_eq_true]
        · rw [if_neg hy, beq_eq_false_iff_ne.mpr hy]
      · rw [if_neg hm] at e
        cases q : setAttrL n w ns vs with
        | none => rw [q] at e; cases e
        | some z =>
          rw [q] at e; cases e
          have hne : Str.ofString n ≠ Str.ofString m := fun q' => hn.1 (q' ▸ List.mem_map.mpr ⟨n, set_mem q, rfl⟩)
          obtain ⟨xs', a1, a2, a3⟩ := ih q r2 hn.2
          refine ⟨x :: xs', .cons r1 a1, by rw [List.length_cons, a2, List.length_cons], fun y => ?_⟩
          rw [List.map_cons, List.zip_cons_cons, List.zip_cons_cons, List.lookup_cons, List.lookup_cons]
          by_cases hy : y = Str.ofString m
          · rw [hy, beq_self_eq_true, if_neg (fun q' => hne q'.symm)]
          · rw [beq_eq_false_iff_ne.mpr hy]
            exact a3 y
theorem RV.out {N : Addr → Prop} {h : Heap} {v : V} {x : Value} (r : RV N h v x) : handedOut x = pure x := by cases r <;> rfl
theorem hasC_row {G : PG} {d : Nat} {h : Heap} {c : Nat} {ns : List String} (T : TT G h) (e : (G.cx d).has c ns = true) : ∃ N0 mN n fs, CRow h c N0 mN n fs ∧ fs.map (·.1) = ns := by
  obtain ⟨r, hr, e⟩ := List.any_eq_true.mp e
  obtain ⟨e1, e2⟩ := (Bool.and_eq_true _ _).mp e
  obtain ⟨_, N0, mN, R⟩ := T.cl r hr
  cases of_decide_eq_true e1
  exact ⟨N0, mN, _, _, R, of_decide_eq_true e2⟩
theorem CRow.name {h : Heap} {C N0 : Addr} {mN : Str → Option Value} {k : Nat} {fs : List (String × Ini)} {ns : List String} {n : String} (R : CRow h C N0 mN k fs) (e : fs.map (·.1) = ns) (hn : n ∈ ns) : mN (Str.ofString n) = none ∧ typeLookup (.type "object") (Str.ofString n) = pure none := by
  rw [← e] at hn
  obtain ⟨f, hf, rfl⟩ := List.mem_map.mp hn
  exact R.qt f hf
section
variable {G : PG} {d : Nat} {c : Sc} {A : Around} {env : Env} {lay : Nat → Option Place} {Sys : Addr → Prop} {base : Heap} {st : St} {s : Shared}
theorem attr_eval {o : Expr} {n : Str} {pos : Pos} (h : attrB o = true) : eval (.Attribute o n pos) env = (do
      let v ← eval o env
      standAt pos.atName
      let r ← holding [v] (getAttr v n true)
      letTemporaryGo o v r
      pure r) := by
  cases o with
  | Name => rfl
  | Call f xs ks p =>
    obtain ⟨z, r, rfl⟩ := some1_inv h
    cases f <;> rfl
  | _ => exact ff h
theorem attr_load {N : Addr → Prop} {E : Value → Shared → Prop} {x a C : Addr} {ns : List String} {vs : List V} {xs : List Value} {n : String} {v : V} {K : Value → Shared → Prop} (T : TT G s.heap) (hh : (G.cx d).has C ns = true) (i : InsX s.heap x a C) (o : NsOf s.heap a ns xs) (r : RVs N s.heap vs xs) (e : attrL n ns vs = some v)
    (hK : ∀ val tk, RV N s.heap v val → K val { s with toks := tk }) : wpAny (model G.prog G.w) A (getAttr (.ref x) (Str.ofString n) true) K E s := by
  obtain ⟨N0, mN, k, fs, R, hns⟩ := hasC_row T hh
  obtain ⟨q1, q2⟩ := R.name hns (attr_mem e)
  obtain ⟨val, hl, rv⟩ := attr_get e r o.2.1
  obtain ⟨nm, q, bs, sn, sub, col, dd, k0, k1, k2, k3, k5, hC⟩ := R.cls.obj
  exact load_attr hC R.cls.ns R.ga q1 q2 (i.inst o.2.2.2) hl rv.out (hK val _ rv)
theorem se_attr {a : E} {n : String} {o : Expr} {pos : Pos} (F : Fx G d c A env lay Sys base st s) (ha : SE G d c a o) (hb : attrB o = true) : Snd G.prog G.w A (NN st.H Sys) s false (eval (.Attribute o (Str.ofString n) pos) env) (WE (G.cx d) (.attr a n) st) := by
  intro Q X K E hW hK hX
  simp only [we_0, we_1, we_2, we_3, we_4, we_5, we_6, we_7, we_8, we_9, we_10, we_11, we_12, we_13, we_14, we_15, we_16, we_17, we_18, we_19, we_20, we_21, we_22, we_23, we_24, we_25, we_26, we_27, we_28, we_29, we_30, we_31, we_32, we_33, we_34, we_35] at hW
  refine Attribute_any_ ((ha F).weak _ X _ E hW (fun u va s₁ h₁ r₁ k₁ _ => ?_) hX) (attr_eval hb)
  have F₁ := F.keeps k₁
  split at h₁
  · obtain ⟨hh, h₁⟩ := h₁
    split at h₁
    · rename_i v hv
      cases r₁ with
      | inst n1 n2 i o r => exact attr_load F₁.top hh i o r hv fun val tk rv => hK _ _ _ h₁ rv (k₁.trans (Kp.tok _ tk)) nofun
    · exact h₁.elim
  · split at h₁
    · rename_i hH
      obtain ⟨hh, rfl, rfl, h₁⟩ := h₁
      split at h₁
      · rename_i v hv
        cases r₁ with
        | iref n1 i =>
          cases F₁.sim.objs _ _ hH with
          | inst o r => exact attr_load F₁.top hh i o r hv fun val tk rv => hK _ _ _ h₁ rv (k₁.trans (Kp.tok _ tk)) nofun
      · exact h₁.elim
    · exact h₁.elim
  · exact h₁.elim
theorem ev_new {cn : String} {k n : Nat} {fs : List (String × Ini)} {es : Es} {y : Str} {z : Expr} {xs : List Expr} {p pos : Pos} {Q : List V → Prop} {X : String → Prop} {K E : Value → Shared → Prop} (F : Fx G d c A env lay Sys base st s) (hg : isGlob c y cn = true) (h : SEs G d c es (z :: xs)) (hlk : G.ctab.lookup cn = some (k, n, fs))
    (hW : WEs (G.cx d) es st (fun vs => vs.length = n ∧ Q vs) X)
    (hK : ∀ vs x dx ys h₁ s', Q vs → Kp s s' → s.heap.get? x = none → s.heap.get? dx = none → x ≠ dx → InsX s'.heap x dx k → NsOf s'.heap dx (fs.map (·.1)) ys → RVs (NN st.H Sys) h₁ (fs.map fun f => iniV vs f.2) ys → h₁.get? dx = none → HK h₁ s'.heap → K (.ref x) s') (hX : ∀ e s', Rz s X e s' → E e s') :
    wpAny (model G.prog G.w) A (eval (.Call (.Name y p) (z :: xs) [] pos) env) K E s := by
  obtain ⟨h1, N0, mN, R⟩ := F.top.cl _ (memS hlk)
  have hs := h.1
  simp only [List.all_cons, Bool.and_eq_true] at hs
  rw [arm_eval_Call_Name']
  refine wpAny_bind (ld_glob F hg h1 ?_)
  refine callWith_cls (h₀ := s.heap) R.cls (h.2 F pos _ X _ E hW (fun vs vals s₁ q r k₁ => ⟨k₁.hk, ?_⟩) hX) (starEach_cons hs.1) (star_plain pos env _ hs.2)
  have F₁ := F.keeps k₁
  have hd := F.rm.depth
  refine new_call (R.keeps k₁.hk) F₁.top.nolimit (by omega) (by rw [← r.length]; exact q.1) r fun x dx h' tk ys q1 q2 q3 q4 q5 q6 q7 => ?_
  exact hK vs x dx ys _ _ q.2 (k₁.trans (Kp.of q1)) (fresh_keeps k₁ q2) (fresh_keeps k₁ q3) q4 q5 q6 q7 q3 q1
theorem se_new {cn : String} {es : Es} {y : Str} {z : Expr} {xs : List Expr} {p pos : Pos} (F : Fx G d c A env lay Sys base st s) (hg : isGlob c y cn = true) (h : SEs G d c es (z :: xs)) : Snd G.prog G.w A (NN st.H Sys) s false (eval (.Call (.Name y p) (z :: xs) [] pos) env) (WE (G.cx d) (.new cn es) st) := by
  intro Q X K E hW hK hX
  simp only [we_0, we_1, we_2, we_3, we_4, we_5, we_6, we_7, we_8, we_9, we_10, we_11, we_12, we_13, we_14, we_15, we_16, we_17, we_18, we_19, we_20, we_21, we_22, we_23, we_24, we_25, we_26, we_27, we_28, we_29, we_30, we_31, we_32, we_33, we_34, we_35] at hW
  split at hW
  · rename_i k n fs hlk
    refine ev_new F hg h hlk hW (fun vs x dx ys h₁ s' q k₁ fx fd hne i o r _ kk => ?_) hX
    have nf : ∀ b, s.heap.get? b = none → ¬ NN st.H Sys b := fun b e q => q.elim (fun q => q (F.sim.fresh e)) fun q => F.sim.live b q e
    exact hK _ _ _ q (.inst (nf x fx) (nf dx fd) i o (r.keeps kk)) k₁ nofun
  · exact hW.elim
end
end Mine
end

section
set_option autoImplicit false
namespace Mine
open PySem

section
variable {G : PG} {d : Nat} {c : Sc} {A : Around} {env : Env} {lay : Nat → Option Place} {Sys : Addr → Prop} {base : Heap} {st : St} {s : Shared} {E : Value → Shared → Prop}

theorem tgIs_idx {u : Nat} {t : Tg} {xs : List Str} (h : tgIs u t xs = true) : ∀ j ∈ t.idx, u ≤ j := by
  cases t with
  | var i =>
    intro j hj
    rw [List.mem_singleton.mp hj, eq_of_beq ((Bool.and_eq_true _ _).mp h).1]
    exact Nat.le_refl _
  | tup is =>
    intro j hj
    have hj : j ∈ is := hj
    rw [of_decide_eq_true ((Bool.and_eq_true _ _).mp h).1] at hj
    rcases List.mem_cons.mp hj with rfl | hj
    · exact Nat.le_refl _
    · rw [List.mem_singleton.mp hj]; exact Nat.le_succ _
theorem tgIs_ne {u : Nat} {t : Tg} (h : tgIs u t [] = true) : False := by
  cases t with
  | var i => exact ff ((Bool.and_eq_true _ _).mp h).2
  | tup is => exact ff ((Bool.and_eq_true _ _).mp h).2

/-- one turn of a comprehension -/
noncomputable abbrev CStep (G : PG) (d : Nat) (c : Sc) (A : Around) (st : St) (base : Heap) (xs : List Str) (sc : Scope) (t : Tg) (ifs : List Expr) (elt : Expr) (f : V → (Option V → Prop) → Prop) : Prop :=
  ∀ (x : V) (k : Option V → Prop), f x k → ∃ ρ', bindT t x st.ρ = some ρ' ∧ ∀ {cenv : Env} {lay' : Nat → Option Place} {Sys' : Addr → Prop} {s' : Shared}, Fx G d (inner c xs sc.names) A cenv lay' Sys' base { st with ρ := ρ' } s' →
    ∀ (K : Option Value → Shared → Prop) (E' : Value → Shared → Prop), (∀ y val s'', k (some y) → RV (NN st.H Sys') s''.heap y val → Kp s' s'' → K (some val) s'') → (∀ s'', k none → Kp s' s'' → K none s'') →
      wpAny (model G.prog G.w) A (forIn ifs true fun c r => if r = true then do let ok ← isTrue c cenv (eval c cenv); pure (ForInStep.yield ok) else pure (ForInStep.yield r))
        (fun ok s₃ => if ok = true then wpAny (model G.prog G.w) A (eval elt cenv) (fun v s₄ => K (some v) s₄) E' s₃ else K none s₃) E' s'

theorem comp_block {f : V → (Option V → Prop) → Prop} {t : Tg} {tg iter elt : Expr} {ifs : List Expr} {sc : Scope} {pos : Pos} {xs : List Str} {vs : List V} {ds : List Nat} {I : Addr} {cl : List (Str × Addr)} {s₂ : Shared} {nw : Bool} {QQ : List V → Prop} {RR : Value → Addr → Result → Shared → Prop}
    (F : Fx G d c A env lay Sys base st s) (k : Kp s s₂) (io : ItOk G A st.H Sys s s₂ vs ds I nw) (hez : nw = true → isTupX tg = true) (hz : vs.length ≤ sizeLine) (ht : TableOk c xs sc) (hti : tgIs c.used t xs = true) (htg : chkTg (inner c xs sc.names) t tg = true)
    (hcl : ∀ p ∈ sc.names, p.2 = .free → ∃ a, cl.lookup p.1 = some a ∧ env.cells.lookup p.1 = some a) (hstep : CStep G d c A st base xs sc t ifs elt f) (hc : compL f vs QQ)
    (hRR : ∀ D C h' tk m' ys zs nn, QQ ys → s.heap.get? D = none → s.heap.get? C = none → D ≠ C → h'.Ns C m' → IsL h' D zs nn → zs.size ≤ sizeLine → RVs (NN st.H (fun a => Sys a ∨ a = C ∨ a = D)) h' ys zs.toList → HK s.heap h' → RR (.ref D) C (.ok .next) { s₂ with heap := h', toks := tk }) :
    wpAny (model G.prog G.w) A (newList []) (fun acc s₃ => wpAny (model G.prog G.w) A (newFunctionEnv sc env.globals cl [] env.qual none .none (some env)) (fun cenv s₄ =>
      codeAny (model G.prog G.w) A (.compStart (.ListComp elt [⟨tg, iter, ifs, 0⟩] sc pos) 0 (.ref I) acc { cenv with scope := relabel sc env }) (RR acc cenv.locals) s₄) E s₃) E s₂ := by
  obtain ⟨fp, wr, P, Mi, Si, W, hsi, hwr, hfp, hdep, hitem⟩ := io.ex
  have hcell : ∀ y ∈ sc.names, y.2 ≠ .cell := by
    intro y hy e
    rcases ht.names y hy with q | ⟨q, _⟩ | q <;> rw [e] at q <;> cases q
  refine wpAny_newObj_type (wpAny_newFunctionEnv hcell (by intro y hy; simp at hy) (fun h₁ hns₁ hsb₁ => ?_) ht.kind)
  dsimp only at hns₁ hsb₁ ⊢
  generalize hH2 : s₂.heap.push { cls := .type "list", dict := none, data := .seq ([] : List Value).toArray } = H2 at hns₁ hsb₁ ⊢
  have hC : H2.objs.size = s₂.heap.objs.size + 1 := by rw [← hH2, Heap.size_push]
  obtain ⟨D, hDe⟩ : ∃ D, s₂.heap.objs.size = D := ⟨_, rfl⟩
  obtain ⟨C, hCe⟩ : ∃ C, H2.objs.size = C := ⟨_, rfl⟩
  rw [hCe] at hns₁ hsb₁ hC ⊢
  rw [hDe] at hC ⊢
  have hfp : ∀ b ∈ fp, b < D := fun b hb => by
    obtain ⟨o, ho⟩ := hfp b hb
    exact hDe ▸ Heap.lt_size ho
  have hDC : D ≠ C := by omega
  have below : ∀ (b : Nat) o, s₂.heap.get? b = some o → b ≠ C ∧ b ≠ D := fun b o e => by have h' : b < s₂.heap.objs.size := Heap.lt_size e; omega
  have fresh₂ : ∀ b, D ≤ b → s₂.heap.get? b = none := fun b hb => Heap.get?_none_of_le (by omega)
  have old : ∀ b o, s₂.heap.get? b = some o → h₁.get? b = some o := fun b o e => hsb₁.extBut b o (below b o e).1 (Heap.get?_push_of_some _ (hH2 ▸ Heap.get?_push_of_some _ e))
  have hacc : IsL h₁ D #[] 0 := hsb₁.extBut D _ hDC (Heap.get?_push_of_some _ (hH2 ▸ hDe ▸ Heap.get?_push_size _ rfl))
  have hst₁ : Si 0 h₁ := W.frame _ _ _ hsi fun b _ o e => old b o e
  have hDs : s.heap.get? D = none := fresh_keeps k (fresh₂ D (Nat.le_refl _))
  have hCs : s.heap.get? C = none := fresh_keeps k (fresh₂ C (by omega))
  -- what is off limits inside
  let New : Addr → Prop := fun b => b = C ∨ b = D ∨ b ∈ wr
  let Sys' : Addr → Prop := fun a => Sys a ∨ New a
  have hNs : ∀ b, New b → s.heap.get? b = none := by
    rintro b (rfl | rfl | hb)
    · exact hCs
    · exact hDs
    · exact hwr b hb
  have hplace : ∀ i p, lay i = some p → p.addr ≠ C ∧ p.addr ≠ D ∧ p.addr ∉ wr := by
    intro i p hp
    have hl := F.sim.live _ (F.sim.sys i p hp).1
    exact ⟨fun e => hl (e ▸ hCs), fun e => hl (e ▸ hDs), fun e => hl (hwr _ e)⟩
  have hplaceC : ∀ i p, layC c.used C xs lay i = some p → Sys' p.addr := by
    intro i p hp
    simp only [layC] at hp
    split at hp
    · exact .inl (F.sim.sys i p hp).1
    · simp only [Option.map_eq_some_iff] at hp
      obtain ⟨x, _, rfl⟩ := hp
      exact .inr (.inl rfl)
  have hplaceC' : ∀ i p, layC c.used C xs lay i = some p → p.addr ≠ D ∧ p.addr ∉ wr := by
    intro i p hp
    simp only [layC] at hp
    split at hp
    · exact (hplace i p hp).2
    · simp only [Option.map_eq_some_iff] at hp
      obtain ⟨x, _, rfl⟩ := hp
      exact ⟨Ne.symm hDC, fun e => by have : C < D := hfp _ (W.sub _ e); omega⟩
  have hbaseC : base.get? C = none := by
    cases e : base.get? C with
    | none => rfl
    | some o => rw [F.sim.keep _ _ e] at hCs; cases hCs
  -- the loop
  let Inv : Nat → Shared → Prop := fun n s' => ∃ i acc ys nn m h tk, n = vs.length - i ∧ i ≤ vs.length ∧ s' = { s₂ with heap := h, toks := tk } ∧ (∀ b o, b ∉ wr → s₂.heap.get? b = some o → h.get? b = some o) ∧ Si i h ∧ IsL h D ys nn ∧ h.Ns C m ∧
    RVs (NN st.H Sys') h acc ys.toList ∧ ys.size ≤ i ∧ compL f (vs.drop i) (fun rest => QQ (acc ++ rest))
  have loop : ∀ s₃ : Shared, s₃ = { s₂ with heap := h₁, toks := s₂.toks + ([] : List (Str × Value)).length } →
      codeAny (model G.prog G.w) A (.compLoop (.ListComp elt [⟨tg, iter, ifs, 0⟩] sc pos) 0 (.ref I) (.ref D) (compEnvC sc cl C env)) (RR (.ref D) C) s₃ := by
    rintro s₃ rfl
    refine compLoop_gen Inv ?_ vs.length ⟨0, [], #[], 0, _, h₁, _, rfl, Nat.zero_le _, rfl, fun b o _ e => old b o e, hst₁, hacc, hns₁, .nil, Nat.le_refl _, by simpa using hc⟩
    rintro n s' ⟨i, acc, ys, nn, m, h, tk, hn, hi, rfl, hkeep, hs_i, hL, hM, hR, hsz, hcc⟩
    have hkeep_s : HK s.heap h := fun b o e => hkeep b o (fun hb => by rw [hwr b hb] at e; cases e) (k.hk b o e)
    rcases Nat.lt_or_ge i vs.length with hlt | hge
    · -- one more
      have hx : vs[i]? = some vs[i] := List.getElem?_eq_getElem hlt
      rw [List.drop_eq_getElem_cons hlt] at hcc
      simp only [cl_nil, cl_cons] at hcc
      obtain ⟨ρ', hb, hstp⟩ := hstep _ _ hcc
      refine W.item i _ _ _ hlt hs_i fun val h1 tk1 hMi hfr hk1 => ?_
      refine W.own i { s₂ with heap := h1, toks := tk1 } val tg _ _ hMi hez fun h2 hs2 hP2 hk2 => ?_
      have hk02 : ∀ b o, b ∉ wr → h.get? b = some o → h2.get? b = some o := fun b o nb e => hk2 b o nb (hk1 b o nb e)
      have hk22 : ∀ b o, b ∉ wr → s₂.heap.get? b = some o → h2.get? b = some o := fun b o nb e => hk02 b o nb (hkeep b o nb e)
      have hks2 : HK s.heap h2 := fun b o e => hk22 b o (fun hb => by rw [hwr b hb] at e; cases e) (k.hk b o e)
      have hCw : C ∉ wr := fun e => by have h' : C < D := hfp _ (W.sub _ e); omega
      have hDw : D ∉ wr := fun e => by have h' : D < D := hfp _ (W.sub _ e); omega
      have hL2 : IsL h2 D ys nn := hk02 D _ hDw hL
      have hM2 : h2.Ns C m := by
        obtain ⟨o, es, ep, ho, r⟩ := hM
        exact ⟨o, es, ep, hk02 C _ hCw ho, r⟩
      have hNew2 : ∀ b, New b → h2.get? b ≠ none := by
        rintro b (rfl | rfl | hb) e
        · obtain ⟨o, es, ep, ho, r⟩ := hM2
          rw [ho] at e; cases e
        · rw [hL2] at e; cases e
        · exact W.ex _ _ hs2 b hb e
      have S2 : Sim G.hf (TT G) lay Sys' base st h2 := F.sim.enter (New := New) hks2 hNs hNew2
      have S3 : Sim G.hf (TT G) (layC c.used C xs lay) Sys' base { st with ρ := wipe c.used st.ρ } h2 := S2.comp F.us (.inr (.inl rfl)) (fun i p hp => (hplace i p hp).1) hbaseC (F.sim.fresh hCs) hM2 ht.nd
      -- the item
      have hgenN : ∀ b, NN st.H Sys' b → NN st.H (fun a => Sys a ∨ a ∈ wr) b ∨ s₂.heap.get? b = none := by
        rintro b (q | q | rfl | rfl | q)
        · exact .inl (.inl q)
        · exact .inl (.inr (.inl q))
        · exact .inr (fresh₂ _ (by omega))
        · exact .inr (fresh₂ _ (Nat.le_refl _))
        · exact .inl (.inr (.inr q))
      have hgenK : ∀ b o, ¬ NN st.H (fun a => Sys a ∨ a ∈ wr) b → s₂.heap.get? b = some o → h2.get? b = some o := fun b o nb e => hk22 b o (fun q => nb (.inr (.inr q))) e
      have hval : RV (NN st.H Sys') h2 vs[i] val := by
        have := hitem i vs[i] val h2 hx hP2
        cases nw with
        | false => exact RV.gen hgenN hgenK this
        | true =>
          obtain ⟨t', xs', n', ws, e1, rfl, e3, e4, e5⟩ := this
          rw [e1]
          have hft : h.get? t' = none := hfr rfl t' rfl
          refine .tup (fun q => ?_) e3 e4 (RVs.gen hgenN hgenK e5)
          rcases q with q | q | rfl | rfl | q
          · exact q ((F.sim.keeps hkeep_s).fresh hft)
          · exact (F.sim.keeps hkeep_s).live _ q hft
          · obtain ⟨o, es, ep, ho, r⟩ := hM
            rw [ho] at hft; cases hft
          · rw [hL] at hft; cases hft
          · exact W.ex _ _ hs_i _ q hft
      obtain ⟨ρ₁, hb₁⟩ := bindT_ok (ρ₁ := wipe c.used st.ρ) (by rw [wipe_length]) hb
      have O' := env_comp (C := C) F.eo F.us ht hcl
      refine st_tg (c := inner c xs sc.names) F.rm.hnd O' (s := { s₂ with heap := h2, toks := tk1 }) S3 htg hb₁ hval fun h3 tk3 S4 tc => ?_
      have hus' : ∀ j p, layC c.used C xs lay j = some p → j < c.used + xs.length := by
        intro j p hp
        simp only [layC] at hp
        split at hp
        · omega
        · simp only [Option.map_eq_some_iff] at hp
          obtain ⟨x, hx, _⟩ := hp
          obtain ⟨hl, _⟩ := List.getElem?_eq_some_iff.mp hx
          omega
      have S5 : Sim G.hf (TT G) (layC c.used C xs lay) Sys' base { st with ρ := ρ' } h3 := S4.forget (ρ' := ρ') fun j v p hp hv => by
        rw [← bindT_agree hti (by rw [wipe_length]) (fun q hq => (wipe_lo hq).symm) hb hb₁ j (hus' j p hp)]; exact hv
      have F5 : Fx G d (inner c xs sc.names) A (compEnvC sc cl C env) (layC c.used C xs lay) Sys' base { st with ρ := ρ' } { s₂ with heap := h3, toks := tk3 } := ⟨F.rm, O', hus', S5⟩
      have hk23 : ∀ b o, ¬ Sys' b → h2.get? b = some o → h3.get? b = some o := fun b o nb e => tc b o (fun j _ p hp hb => nb (hb ▸ hplaceC j p hp)) e
      have hk33 : ∀ b o, b ≠ C → h2.get? b = some o → h3.get? b = some o := fun b o nb e => tc b o (fun j hj p hp hb => by
        have hju : c.used ≤ j := tgIs_idx hti j hj
        simp only [layC] at hp
        rw [if_neg (by omega)] at hp
        simp only [Option.map_eq_some_iff] at hp
        obtain ⟨x, _, rfl⟩ := hp
        exact nb hb) e
      have hL3 : IsL h3 D ys nn := tc D _ (fun j _ p hp => Ne.symm (hplaceC' j p hp).1) hL2
      have hM3 : ∃ m', h3.Ns C m' := by
        -- the names of the frame stand
        cases xs with
        | nil =>
          exact (tgIs_ne hti).elim
        | cons x r => exact S5.ok c.used (.loc C x) (by simp [layC])
      have hsi3 : Si (i + 1) h3 := W.frame _ _ _ hs2 fun b hb o e => tc b o (fun j _ p hp hbe => by
        simp only [layC] at hp
        split at hp
        · have h3' := hplace j p hp
          have hs' := F.sim.sys j p hp
          by_cases hbw : b ∈ wr
          · exact h3'.2.2 (hbe ▸ hbw)
          · rcases hdep b hb hbw with q | q
            · exact q (.inr (hbe ▸ hs'.1))
            · exact q.2 (hbe ▸ hs'.2.2)
        · simp only [Option.map_eq_some_iff] at hp
          obtain ⟨x, _, rfl⟩ := hp
          have hbe : b = C := hbe
          have h' : C < D := hbe ▸ hfp b hb
          omega) e
      -- what each way of the turn leaves
      refine hstp F5 (fun o s₄ => match o with
        | some v => wpAny (model G.prog G.w) A (call (.builtin "list.append") [.ref D, v]) (fun _ s₅ => ∃ m, m < n ∧ Inv m s₅) (notedBy (model G.prog G.w) A (compEnvC sc cl C env) fun e s' => RR (.ref D) C (.error e) s') s₄
        | none => ∃ m, m < n ∧ Inv m s₄) _ ?_ ?_
      · rintro y v s₄ hq rv ⟨h4, tk4, rfl, hk4⟩
        have hL4 : IsL h4 D ys nn := hk4 _ _ hL3
        refine append_call hL4 (by omega) ?_
        have hoth : ∀ b o, b ≠ D → h3.get? b = some o → (h4.update D (Obj.mapSeq fun xs => xs.push v)).get? b = some o := fun b o nb e => (Heap.get?_update_other _ _ (Ne.symm nb)).trans (hk4 b o e)
        have hR' : ∀ {us : List V} {zs : List Value}, RVs (NN st.H Sys') h4 us zs → RVs (NN st.H Sys') (h4.update D (Obj.mapSeq fun xs => xs.push v)) us zs := fun r => r.gen (fun _ q => .inl q) fun b o nb e => (Heap.get?_update_other _ _ (fun q => nb (.inr (.inr (.inr (.inl q.symm)))))).trans e
        obtain ⟨m3, hM3⟩ := hM3
        refine ⟨vs.length - (i + 1), by omega, i + 1, acc ++ [y], ys.push v, _, m3, _, tk4, rfl, hlt, rfl, ?_, ?_, hL4.update _, ?_, ?_, ?_, ?_⟩
        · intro b o nb e
          exact hoth b o (below b o e).2 (hk33 b o (below b o e).1 (hk22 b o nb e))
        · exact W.frame _ _ _ hsi3 fun b hb o e => hoth b o (fun q => by have h' : D < D := q ▸ hfp b hb; omega) e
        · exact hM3.at' fun o e => hoth C o (Ne.symm hDC) e
        · rw [Array.toList_push]
          refine RVs.append (hR' ?_) (hR' (.cons rv .nil))
          refine RVs.gen (fun _ q => .inl q) (fun b o nb e => hk4 b o (hk23 b o (fun q => nb (.inr q)) (hk02 b o (fun q => nb (.inr (.inr (.inr (.inr q))))) e))) hR
        · simp; omega
        · simpa using hq
      · rintro s₄ hq ⟨h4, tk4, rfl, hk4⟩
        obtain ⟨m3, hM3⟩ := hM3
        refine ⟨vs.length - (i + 1), by omega, i + 1, acc, ys, _, m3, _, tk4, rfl, hlt, rfl, ?_, ?_, hk4 _ _ hL3, ?_, ?_, ?_, ?_⟩
        · intro b o nb e
          exact hk4 b o (hk33 b o (below b o e).1 (hk22 b o nb e))
        · exact W.frame _ _ _ hsi3 fun b hb o e => hk4 b o e
        · exact hM3.at' fun o e => hk4 C o e
        · refine RVs.gen (fun _ q => .inl q) (fun b o nb e => hk4 b o (hk23 b o (fun q => nb (.inr q)) (hk02 b o (fun q => nb (.inr (.inr (.inr (.inr q))))) e))) hR
        · omega
        · simpa using hq
    · -- the end
      have hi' : i = vs.length := by omega
      subst hi'
      rw [List.drop_length] at hcc
      simp only [cl_nil, cl_cons, List.append_nil] at hcc
      refine W.done _ _ _ hs_i fun h1 tk1 hk1 => ?_
      have hCw : C ∉ wr := fun e => by have h' : C < D := hfp _ (W.sub _ e); omega
      have hDw : D ∉ wr := fun e => by have h' : D < D := hfp _ (W.sub _ e); omega
      have hM1 : h1.Ns C m := hM.at' fun o e => hk1 C o hCw e
      refine hRR D C h1 tk1 m acc ys nn hcc hDs hCs hDC hM1 (hk1 D _ hDw hL) (by omega) (hR.gen (fun b q => ?_) fun b o nb e => hk1 b o (fun q => nb (.inr (.inr (.inr (.inr q))))) e) fun b o e => hk1 b o (fun hb => by rw [hwr b hb] at e; cases e) (hkeep_s b o e)
      rcases q with q | q | q | q
      · exact .inl (.inl q)
      · exact .inl (.inr (.inl q))
      · exact .inl (.inr (.inr (.inl q)))
      · exact .inl (.inr (.inr (.inr (.inl q))))
  exact codeAny_compStart_list (loop _ rfl) (W.self 0 _ _ _ hst₁ (loop _ rfl))
end

end Mine
end

section
set_option autoImplicit false
namespace Mine
open PySem

section
variable {G : PG} {d : Nat} {c : Sc} {A : Around} {env : Env} {lay : Nat → Option Place} {Sys : Addr → Prop} {base : Heap} {st : St} {s : Shared}

theorem folded_plain {x : Expr} (h : isSetX x = false) (env : Env) (v : Value) : foldedSetIterable x env v = pure v := by
  cases x <;> first | rfl | exact nomatch h

theorem free_cells {xs : List Str} {sc : Scope} (O : EnvOk env c.names c.σ lay) (ht : TableOk c xs sc) : ∀ p ∈ sc.names, p.2 = .free → ∃ a, env.cells.lookup p.1 = some a := by
  intro p hp hf
  rcases ht.names p hp with q | ⟨_, _, ⟨i, hi⟩, hk, _⟩ | q
  · rw [hf] at q; cases q
  · obtain ⟨pl, _, hc⟩ := O.vars p.1 i hi
    have hk' : env.kindOf p.1 = some .cell ∨ env.kindOf p.1 = some .free := hk.elim (fun q => .inl (O.ce _ q)) (O.fr _)
    rcases hc with ⟨hl, _⟩ | ⟨_, _, a, ha, _⟩
    · rcases hk' with q | q <;> rw [hl] at q <;> cases q
    · exact ⟨a, ha⟩
  · rw [hf] at q; cases q

/-- a comprehension's value -/
theorem comp_val {f : V → (Option V → Prop) → Prop} {t : Tg} {tg iter elt : Expr} {ifs : List Expr} {sc : Scope} {pos : Pos} {xs : List Str} {it : It} {Q : V → Prop} {X : String → Prop} {K E : Value → Shared → Prop}
    (F : Fx G d c A env lay Sys base st s) (hi : SI G d c it iter) (hset : isSetX iter = false) (hez : isEZ it = true → isTupX tg = true) (ht : TableOk c xs sc) (hti : tgIs c.used t xs = true) (htg : chkTg (inner c xs sc.names) t tg = true)
    (hstep : CStep G d c A st base xs sc t ifs elt f) (hW : WI (G.cx d) it st (fun xs _ => xs.length ≤ sizeLine ∧ compL f xs (fun ys => Q (.lst ys))) X)
    (hK : ∀ v val s', Q v → RV (NN st.H Sys) s'.heap v val → Kp s s' → Frsh (NN st.H Sys) s s' v val → K val s') (hX : ∀ e s', Rz s X e s' → E e s') :
    wpAny (model G.prog G.w) A (eval (.ListComp elt [⟨tg, iter, ifs, 0⟩] sc pos) env) K E s := by
  rw [eval_ListComp]
  obtain ⟨cl, e1, e2⟩ := closure_ok (free_cells F.eo ht)
  refine wpAny_comprehension_free (use := none) rfl (folded_plain hset env) e1 ht.kind (fun x hx hl => by rw [← hl]; exact nodup_lookup ht.nodup hx) ?_
  refine hi F _ X _ E hW (fun vs ds I s₂ hq k io => ?_) hX
  refine comp_block (RR := fun acc C => compPost (model G.prog G.w) A E none K acc C) F k io hez hq.1 ht hti htg e2 hstep hq.2 ?_
  intro D C h' tk m' ys zs nn hQ hD hC hDC hm hl hz hr hk
  refine ⟨m', hm, fun h'' hs => ?_⟩
  obtain ⟨h2, t2, rfl, k2⟩ := k
  have hkk : HK s.heap h'' := fun b o e => hs.extBut b o (fun q => by rw [q, hC] at e; cases e) (hk b o e)
  have hl' : IsL h'' D zs nn := hs.extBut D _ hDC hl
  have hr' : RVs (fun b => NN st.H Sys b ∨ b = D) h'' ys zs.toList := hr.gen (fun b q => by
    rcases q with (q | q) | q
    · exact .inl (.inl q)
    · exact .inl (.inr (.inl q))
    · exact .inl (.inr (.inr (.inr q)))) fun b o nb e => hs.extBut b o (fun q => nb (.inr (.inr (.inl q)))) e
  refine hK _ _ _ hQ (new_at F.sim.objs F.sim.live hD hl' hz (hr'.less fun b q => .inl q)) (Kp.of hkk) ?_
  rintro a ⟨⟩
  refine ⟨hD, ?_⟩
  rintro vs' ⟨⟩
  exact ⟨zs, nn, hl', hz, hr'⟩

theorem cstep_plain {t : Tg} {e : E} {elt : Expr} {sc : Scope} {xs : List Str} (he : SE G d (inner c xs sc.names) e elt) :
    CStep G d c A st base xs sc t [] elt (fun x k => match bindT t x st.ρ with
        | some ρ' => WE (G.cx d) e { st with ρ := ρ' } (fun y => k (some y)) (fun _ => False)
        | none => False) := by
  intro x k h
  split at h
  · rename_i ρ' hb
    refine ⟨ρ', hb, fun {cenv lay' Sys' s'} F K E' hs hn => wpAny_tests_nil ?_⟩
    rw [if_pos rfl]
    exact (he F).weak _ (fun _ => False) _ _ h (fun v val s'' q r k' _ => hs v val s'' q r k') fun e s'' q => q.elim
  · exact h.elim

theorem cstep_if {t : Tg} {e cd : E} {elt z : Expr} {sc : Scope} {xs : List Str} (he : SE G d (inner c xs sc.names) e elt) (hc : ST G d (inner c xs sc.names) cd z) :
    CStep G d c A st base xs sc t [z] elt (fun x k => match bindT t x st.ρ with
        | some ρ' => WE (G.cx d) cd { st with ρ := ρ' } (fun u => match truthV st.H u with
          | some true => WE (G.cx d) e { st with ρ := ρ' } (fun y => k (some y)) (fun _ => False)
          | some false => k none
          | none => False) (fun _ => False)
        | none => False) := by
  intro x k h
  split at h
  · rename_i ρ' hb
    refine ⟨ρ', hb, fun {cenv lay' Sys' s'} F K E' hs hn => wpAny_tests_one (hc F (fun r => if r then WE (G.cx d) e { st with ρ := ρ' } (fun y => k (some y)) (fun _ => False) else k none) (fun _ => False) _ _ (WE_cg h fun u => ?_) (fun r s₁ q k' => ?_) fun e s'' q => q.elim)⟩
    · show _ = match truthV st.H u with | some b => _ | none => False
      cases truthV st.H u with
      | none => rfl
      | some r => cases r <;> rfl
    · cases r
      · simp only [Bool.false_eq_true, if_false] at q ⊢; exact hn s₁ q k'
      · simp only [if_true] at q ⊢
        exact (he (F.keeps k')).weak _ (fun _ => False) _ _ q (fun v val s'' q r k'' _ => hs v val s'' q r (k'.trans k'')) fun e s'' q => q.elim
  · exact h.elim

theorem se_comp {t : Tg} {e : E} {tg iter elt : Expr} {sc : Scope} {pos : Pos} {xs : List Str} {it : It} (F : Fx G d c A env lay Sys base st s) (hi : SI G d c it iter) (hset : isSetX iter = false) (hez : isEZ it = true → isTupX tg = true) (ht : TableOk c xs sc) (hti : tgIs c.used t xs = true)
    (htg : chkTg (inner c xs sc.names) t tg = true) (he : SE G d (inner c xs sc.names) e elt) : Snd G.prog G.w A (NN st.H Sys) s true (eval (.ListComp elt [⟨tg, iter, [], 0⟩] sc pos) env) (WE (G.cx d) (.comp e t it) st) := by
  intro Q X K E hW hK hX
  simp only [we_0, we_1, we_2, we_3, we_4, we_5, we_6, we_7, we_8, we_9, we_10, we_11, we_12, we_13, we_14, we_15, we_16, we_17, we_18, we_19, we_20, we_21, we_22, we_23, we_24, we_25, we_26, we_27, we_28, we_29, we_30, we_31, we_32, we_33, we_34, we_35] at hW
  exact comp_val F hi hset hez ht hti htg (cstep_plain he) hW (fun v val s' q r k f => hK v val s' q r k fun _ => f) hX
theorem se_compIf {t : Tg} {e cd : E} {tg iter elt z : Expr} {sc : Scope} {pos : Pos} {xs : List Str} {it : It} (F : Fx G d c A env lay Sys base st s) (hi : SI G d c it iter) (hset : isSetX iter = false) (hez : isEZ it = true → isTupX tg = true) (ht : TableOk c xs sc) (hti : tgIs c.used t xs = true)
    (htg : chkTg (inner c xs sc.names) t tg = true) (he : SE G d (inner c xs sc.names) e elt) (hc : ST G d (inner c xs sc.names) cd z) : Snd G.prog G.w A (NN st.H Sys) s true (eval (.ListComp elt [⟨tg, iter, [z], 0⟩] sc pos) env) (WE (G.cx d) (.compIf e t it cd) st) := by
  intro Q X K E hW hK hX
  simp only [we_0, we_1, we_2, we_3, we_4, we_5, we_6, we_7, we_8, we_9, we_10, we_11, we_12, we_13, we_14, we_15, we_16, we_17, we_18, we_19, we_20, we_21, we_22, we_23, we_24, we_25, we_26, we_27, we_28, we_29, we_30, we_31, we_32, we_33, we_34, we_35] at hW
  exact comp_val F hi hset hez ht hti htg (cstep_if he hc) hW (fun v val s' q r k f => hK v val s' q r k fun _ => f) hX
end

end Mine
end

section
set_option autoImplicit false
namespace Mine
open PySem

/-- what a call of the table's functions gives, at so many levels of calls -/
noncomputable def CallSnd (G : PG) (d : Nat) : Prop :=
  ∀ {A : Around} {H : AH} {Sys : Addr → Prop} {s : Shared} {f : String} {fa : Addr} {vs : List V} {vals : List Value}, RmC d A → TT G s.heap → HO G.hf H Sys s.heap → (∀ a, Sys a → s.heap.get? a ≠ none) → G.mg (Str.ofString f) = some (.ref fa) →
    RVs (NN H Sys) s.heap vs vals → ∀ (Q : V → Prop) (X : String → Prop) (K E : Value → Shared → Prop), (G.cx d).call f vs H Q X → (∀ v val s', Q v → RV (NN H Sys) s'.heap v val → Kp s s' → K val s') → (∀ e s', Rz s X e s' → E e s') →
      wpAny (model G.prog G.w) A (call (.ref fa) vals) K E s

section
variable {G : PG} {d : Nat} {c : Sc} {A : Around} {env : Env} {lay : Nat → Option Place} {Sys : Addr → Prop} {base : Heap} {st : St} {s : Shared}

theorem se_call (hc : CallSnd G d) {f : String} {es : Es} {y : Str} {p pos : Pos} {z : Expr} {xs : List Expr} (F : Fx G d c A env lay Sys base st s) (hg : isGlob c y f = true) (h : SEs G d c es (z :: xs)) (hf : ∃ fn, G.tbl.lookup f = some fn) :
    Snd G.prog G.w A (NN st.H Sys) s false (eval (.Call (.Name y p) (z :: xs) [] pos) env) (WE (G.cx d) (.call f es) st) := by
  intro Q X K E hW hK hX
  simp only [we_0, we_1, we_2, we_3, we_4, we_5, we_6, we_7, we_8, we_9, we_10, we_11, we_12, we_13, we_14, we_15, we_16, we_17, we_18, we_19, we_20, we_21, we_22, we_23, we_24, we_25, we_26, we_27, we_28, we_29, we_30, we_31, we_32, we_33, we_34, we_35] at hW
  obtain ⟨fn, hfn⟩ := hf
  obtain ⟨dr, a, o, pm, code, doc, h1, h2, h3, h4, h5⟩ := F.top.fn f fn hfn
  rw [arm_eval_Call_Name']
  refine wpAny_bind (ld_glob F hg h1 ?_)
  have e : backTo pos (starEach (z :: xs) env) = (false, eval z env) :: backTo pos (starEach xs env) := by
    have := h.1
    simp only [List.all_cons, Bool.and_eq_true] at this
    rw [starEach_cons this.1]; rfl
  have hs := h.2 F pos _ X (fun vals s' => (s'.heap.get? a = some o ∧ o.data = .func (Calls.docDef dr.name dr.params dr.body dr.scope pm code doc)) ∧ wpAny (model G.prog G.w) A (call (.ref a) vals) K E s') E hW (fun vs vals s' q r k => ?_) hX
  · show wpAny _ _ (callWith pos (.ref a) [] _ _) _ _ _
    rw [e] at hs ⊢
    exact Calls.callWith_function (Calls.evalArgs_plain hs)
  · have F' := F.keeps k
    exact ⟨⟨k.hk _ _ h2, h3⟩, hc F'.rm.toC F'.top F'.sim.objs F'.sim.live h1 r Q X K E q (fun v val s'' q' r' k' => hK v val s'' q' r' (k.trans k') nofun) fun e s'' q' => hX e s'' (Rz.trans k q')⟩
end

theorem st_ite {G : PG} {d : Nat} {c : Sc} {t a b : E} {y z u : Expr} {pos : Pos} (ht : ST G d c t y) (ha : ST G d c a z) (hb : ST G d c b u) : ST G d c (.ite t a b) (.IfExp y z u pos) := by
  intro A env lay Sys base st s F Q X K E hW hK hX
  simp only [we_0, we_1, we_2, we_3, we_4, we_5, we_6, we_7, we_8, we_9, we_10, we_11, we_12, we_13, we_14, we_15, we_16, we_17, we_18, we_19, we_20, we_21, we_22, we_23, we_24, we_25, we_26, we_27, we_28, we_29, we_30, we_31, we_32, we_33, we_34, we_35] at hW
  show wpAny _ _ (do if ← isTrue y env (eval y env) then isTrue z env (eval z env) else isTrue u env (eval u env)) _ _ _
  refine wpAny_bind (ht F (fun r => if r then WE (G.cx d) a st (fun u => match truthV st.H u with | some b => Q b | none => False) X else WE (G.cx d) b st (fun u => match truthV st.H u with | some b => Q b | none => False) X) X _ E (WE_cg hW fun u => ?_) (fun r s₁ q k => ?_) hX)
  · cases truthV st.H u with
    | none => rfl
    | some r => cases r <;> rfl
  · cases r
    · simp only [Bool.false_eq_true, if_false] at q ⊢
      exact hb (F.keeps k) Q X K E q (fun b s' q' k' => hK b s' q' (k.trans k')) fun e s' q' => hX e s' (Rz.trans k q')
    · simp only [if_true] at q ⊢
      exact ha (F.keeps k) Q X K E q (fun b s' q' k' => hK b s' q' (k.trans k')) fun e s' q' => hX e s' (Rz.trans k q')

theorem isComp_inv {y : Expr} (h : isComp y = true) : (∃ a b c d, y = .ListComp a b c d) ∨ (∃ a b c d, y = .SetComp a b c d) ∨ (∃ a b c d e, y = .DictComp a b c d e) := by
  cases y <;> first | exact ff h | exact .inl ⟨_, _, _, _, rfl⟩ | exact .inr (.inl ⟨_, _, _, _, rfl⟩) | exact .inr (.inr ⟨_, _, _, _, _, rfl⟩)
theorem comp_only {c : Sc} {e : E} {y : Expr} (he : chkE c e y = true) (h : isComp y = true) : isCompE e = true := by
  rcases isComp_inv h with ⟨a, b, g, d, rfl⟩ | ⟨a, b, g, d, rfl⟩ | ⟨a, b, g, d, p, rfl⟩ <;> cases e <;> first | rfl | exact ff he

theorem tyNames {t : Ty} (h : plainTy t = true) : tyName t ∈ bnames ∧ bval (tyName t) = .type (tyName t) := by
  cases t <;> first | exact ⟨by decide, rfl⟩ | exact ff h

end Mine
end

section
set_option autoImplicit false
namespace Mine
open PySem

theorem tbl_mem {tbl : Tbl} : ∀ {f : String}, (tbl.map (·.1)).contains f = true → ∃ fn, tbl.lookup f = some fn := by
  induction tbl with
  | nil => intro f h; simp at h
  | cons p r ih =>
    intro f h
    obtain ⟨n, fn⟩ := p
    simp only [List.lookup_cons]
    cases e : f == n with
    | true => exact ⟨_, rfl⟩
    | false =>
      refine ih ?_
      simp only [List.map_cons, List.contains_cons, e, Bool.false_or] at h
      exact h

section
variable {G : PG} {d : Nat}

theorem both {c : Sc} {e : E} {x : Expr} (h1 : SE G d c e x) (h2 : ∀ (env : Env) (w : Sem Value), isTrue x env w = (do let v ← w; standAt x.pos; holding [v] (truthy v))) : SE G d c e x ∧ ST G d c e x := ⟨h1, st_of h1 h2⟩

mutual
theorem sndE (hc : CallSnd G d) : ∀ (e : E) (c : Sc) (x : Expr), c.fns = G.tbl.map (·.1) → chkE c e x = true → SE G d c e x ∧ ST G d c e x
  | .none, c, x, hf, h => by
    replace h := onConst_inv h; obtain ⟨v, kk, pp, rfl, h⟩ := h
    have e := of_decide_eq_true h
    subst e
    · exact both (fun {A env lay Sys base st s} F Q X K E hW hK hX => by
        simp only [we_0, we_1, we_2, we_3, we_4, we_5, we_6, we_7, we_8, we_9, we_10, we_11, we_12, we_13, we_14, we_15, we_16, we_17, we_18, we_19, we_20, we_21, we_22, we_23, we_24, we_25, we_26, we_27, we_28, we_29, we_30, we_31, we_32, we_33, we_34, we_35] at hW; exact snd_none Q X K E hW hK hX) fun _ _ => rfl
  | .bool b, c, x, hf, h => by
    replace h := onConst_inv h; obtain ⟨v, kk, pp, rfl, h⟩ := h
    have e := of_decide_eq_true h
    subst e
    · exact both (fun {A env lay Sys base st s} F Q X K E hW hK hX => by
        simp only [we_0, we_1, we_2, we_3, we_4, we_5, we_6, we_7, we_8, we_9, we_10, we_11, we_12, we_13, we_14, we_15, we_16, we_17, we_18, we_19, we_20, we_21, we_22, we_23, we_24, we_25, we_26, we_27, we_28, we_29, we_30, we_31, we_32, we_33, we_34, we_35] at hW; exact snd_bool Q X K E hW hK hX) fun _ _ => rfl
  | .int i, c, x, hf, h => by
    replace h := onConst_inv h; obtain ⟨v, kk, pp, rfl, h⟩ := h
    have e := of_decide_eq_true h
    subst e
    · exact both (fun {A env lay Sys base st s} F Q X K E hW hK hX => by
        simp only [we_0, we_1, we_2, we_3, we_4, we_5, we_6, we_7, we_8, we_9, we_10, we_11, we_12, we_13, we_14, we_15, we_16, we_17, we_18, we_19, we_20, we_21, we_22, we_23, we_24, we_25, we_26, we_27, we_28, we_29, we_30, we_31, we_32, we_33, we_34, we_35] at hW; exact snd_int Q X K E hW hK hX) fun _ _ => rfl
  | .str u, c, x, hf, h => by
    replace h := onConst_inv h; obtain ⟨v, kk, pp, rfl, h⟩ := h
    · simp only [Bool.and_eq_true, decide_eq_true_eq] at h
      obtain ⟨⟨rfl, h1⟩, h2⟩ := h
      have h : (True ∧ u.length ≤ sizeLine) ∧ u.cps.all (· < 0x110000) = true := ⟨⟨trivial, h1⟩, h2⟩
      have ho : SOk u := ⟨h.1.2, fun c hc => by
        have := h.2
        rw [← Array.all_toList, List.all_eq_true] at this
        simpa using this c hc⟩
      exact both (fun {A env lay Sys base st s} F Q X K E hW hK hX => by
        simp only [we_0, we_1, we_2, we_3, we_4, we_5, we_6, we_7, we_8, we_9, we_10, we_11, we_12, we_13, we_14, we_15, we_16, we_17, we_18, we_19, we_20, we_21, we_22, we_23, we_24, we_25, we_26, we_27, we_28, we_29, we_30, we_31, we_32, we_33, we_34, we_35] at hW; exact snd_str ho Q X K E hW hK hX) fun _ _ => rfl
  | .var i, c, x, hf, h => by
    replace h := onName_inv h; obtain ⟨y, p, rfl, h⟩ := h
    · exact both (fun {A env lay Sys base st s} F => se_var F h) fun _ _ => rfl
  | .glob g, c, x, hf, h => by
    replace h := onName_inv h; obtain ⟨y, p, rfl, h⟩ := h
    · exact both (fun {A env lay Sys base st s} F => se_glob F h) fun _ _ => rfl
  | .bin op a b, c, x, hf, h => by
    replace h := onBin_inv h; obtain ⟨l, o, r, p, rfl, h⟩ := h
    · simp only [Bool.and_eq_true, decide_eq_true_eq] at h
      obtain ⟨⟨rfl, ha⟩, hb⟩ := h
      exact both (fun {A env lay Sys base st s} F => se_bin F (sndE hc a c _ hf ha).1 (sndE hc b c _ hf hb).1) fun _ _ => rfl
  | .neg a, c, x, hf, h => ff h
  | .not a, c, x, hf, h => by
    replace h := onUn_inv h; obtain ⟨o, y, p, rfl, h⟩ := h
    · simp only [Bool.and_eq_true, decide_eq_true_eq] at h
      obtain ⟨rfl, ha⟩ := h
      exact ⟨fun {A env lay Sys base st s} F => se_not F (sndE hc a c _ hf ha).1, st_not (sndE hc a c _ hf ha).2⟩
  | .and a b, c, x, hf, h => by
    replace h := onBool_inv h; obtain ⟨o, ys, p, rfl, h⟩ := h
    replace h := (Bool.and_eq_true _ _).mp h; obtain ⟨h1, h2⟩ := h
    have e := of_decide_eq_true h1
    subst e
    rcases andT_inv h2 with ⟨y, z, rfl, ha, hb⟩ | ⟨y, z, u, r, rfl, ha, hb⟩
    · exact ⟨fun {A env lay Sys base st s} F => se_and F (sndE hc a c _ hf ha).1 (sndE hc b c _ hf hb).1, st_and2 (sndE hc a c _ hf ha).2 (sndE hc b c _ hf hb).2⟩
    · exact ⟨fun {A env lay Sys base st s} F => se_andN F (sndE hc a c _ hf ha).1 (sndE hc b c _ hf hb).1, st_and (sndE hc a c _ hf ha).2 (sndE hc b c _ hf hb).2⟩
  | .or a b, c, x, hf, h => by
    replace h := onBool_inv h; obtain ⟨o, ys, p, rfl, h⟩ := h
    replace h := (Bool.and_eq_true _ _).mp h; obtain ⟨h1, h2⟩ := h
    have e := of_decide_eq_true h1
    subst e
    rcases andT_inv h2 with ⟨y, z, rfl, ha, hb⟩ | ⟨y, z, u, r, rfl, ha, hb⟩
    · exact ⟨fun {A env lay Sys base st s} F => se_or F (sndE hc a c _ hf ha).1 (sndE hc b c _ hf hb).1, st_or2 (sndE hc a c _ hf ha).2 (sndE hc b c _ hf hb).2⟩
    · exact ⟨fun {A env lay Sys base st s} F => se_orN F (sndE hc a c _ hf ha).1 (sndE hc b c _ hf hb).1, st_or (sndE hc a c _ hf ha).2 (sndE hc b c _ hf hb).2⟩
  | .ite t a b, c, x, hf, h => by
    replace h := onIf_inv h; obtain ⟨y, z, u, p, rfl, h⟩ := h
    · simp only [Bool.and_eq_true] at h
      obtain ⟨⟨ht, ha⟩, hb⟩ := h
      exact ⟨fun {A env lay Sys base st s} F => se_ite F (sndE hc t c _ hf ht).2 (sndE hc a c _ hf ha).1 (sndE hc b c _ hf hb).1, st_ite (sndE hc t c _ hf ht).2 (sndE hc a c _ hf ha).2 (sndE hc b c _ hf hb).2⟩
  | .list es, c, x, hf, h => by
    replace h := onList_inv h; obtain ⟨xs, p, rfl, h⟩ := h
    · exact both (fun {A env lay Sys base st s} F => se_list F (sndEs hc es c _ hf h)) fun _ _ => rfl
  | .tup es, c, x, hf, h => by
    replace h := onTup_inv h; obtain ⟨xs, k, p, rfl, h⟩ := h
    · exact both (fun {A env lay Sys base st s} F => se_tup F (sndEs hc es c _ hf h)) fun _ _ => rfl
  | .cmp a ch, c, x, hf, h => by
    replace h := onCmp_inv h; obtain ⟨l, o, r, p, rfl, h⟩ := h
    · simp only [Bool.and_eq_true, Bool.not_eq_true'] at h
      obtain ⟨⟨hm, ha⟩, hb⟩ := h
      exact ⟨fun {A env lay Sys base st s} F => se_cmp F (sndE hc a c _ hf ha).1 (sndCh hc ch c _ _ hf hb) hm, st_cmp (sndE hc a c _ hf ha).1 (sndCh hc ch c _ _ hf hb) hm⟩
  | .sub a i, c, x, hf, h => by
    replace h := onSub_inv h; obtain ⟨y, z, p, rfl, h⟩ := h
    · simp only [Bool.and_eq_true] at h
      obtain ⟨⟨ha, hi⟩, hp⟩ := h
      exact both (fun {A env lay Sys base st s} F => se_sub F (sndE hc a c _ hf ha).1 (sndE hc i c _ hf hi).1 hp) fun _ _ => rfl
  | .slice a lo hi, c, x, hf, h => by
    replace h := onSub_inv h; obtain ⟨y, z, p, rfl, h⟩ := h
    replace h := onSlice_inv h; obtain ⟨l, h', sp, p', rfl, h⟩ := h
    · simp only [Bool.and_eq_true] at h
      obtain ⟨⟨⟨hsn, ha⟩, hl⟩, hh⟩ := h
      cases sp with
      | some _ => exact ff hsn
      | none =>
      have p1 : SP G d c lo l := by
        cases l with
        | none => cases lo <;> first | rfl | exact ff hl
        | some l => exact (sndE hc lo c _ hf hl).1
      have p2 : SP G d c hi h' := by
        cases h' with
        | none => cases hi <;> first | rfl | exact ff hh
        | some l => exact (sndE hc hi c _ hf hh).1
      exact both (fun {A env lay Sys base st s} F => se_slice F (sndE hc a c _ hf ha).1 p1 p2) fun _ _ => rfl
  | .call f es, c, x, hf, h => by
    replace h := onCallN_inv h; obtain ⟨y, p, xs, q, rfl, h⟩ := h
    · simp only [Bool.and_eq_true] at h
      obtain ⟨⟨⟨h0, hg⟩, hm⟩, hs⟩ := h
      obtain ⟨z, r, rfl⟩ := some1_inv h0
      exact both (fun {A env lay Sys base st s} F => se_call hc F hg (sndEs hc es c _ hf hs) (tbl_mem (hf ▸ hm))) fun _ _ => rfl
  | .isinst a t, c, x, hf, h => by
    replace h := onCallN_inv h; obtain ⟨y, p, xs, q, rfl, h⟩ := h
    replace h := two_inv h; obtain ⟨z, n, rfl, h⟩ := h
    replace h := onName_inv h; obtain ⟨u, p', rfl, h⟩ := h
    · simp only [Bool.and_eq_true] at h
      obtain ⟨⟨⟨⟨hg, hz⟩, ha⟩, ht⟩, hp⟩ := h
      exact both (fun {A env lay Sys base st s} F => se_isi F hg hz (sndE hc a c _ hf ha).1 ht (tyNames hp).1 (tyNames hp).2) fun _ _ => rfl
  | .len a, c, x, hf, h => by
    replace h := onCallN_inv h; obtain ⟨y, p, xs, q, rfl, h⟩ := h
    replace h := one_inv h; obtain ⟨z, rfl, h⟩ := h
    · simp only [Bool.and_eq_true] at h
      obtain ⟨⟨hg, hz⟩, ha⟩ := h
      exact both (fun {A env lay Sys base st s} F => se_len F hg hz (sndE hc a c _ hf ha).1) fun _ _ => rfl
  | .sum a, c, x, hf, h => ff h
  | .max2 a b, c, x, hf, h => by
    replace h := onCallN_inv h; obtain ⟨y, p, xs, q, rfl, h⟩ := h
    replace h := two_inv h; obtain ⟨z, u, rfl, h⟩ := h
    simp only [Bool.and_eq_true] at h
    obtain ⟨⟨⟨⟨hg, hz⟩, hu⟩, ha⟩, hb⟩ := h
    exact both (fun {A env lay Sys base st s} F => se_max2 F hg hz hu (sndE hc a c _ hf ha).1 (sndE hc b c _ hf hb).1) fun _ _ => rfl
  | .min2 a b, c, x, hf, h => ff h
  | .maxl a, c, x, hf, h => ff h
  | .maxd a b, c, x, hf, h => ff h
  | .strOf a, c, x, hf, h => ff h
  | .intOf a, c, x, hf, h => ff h
  | .tupOf a, c, x, hf, h => ff h
  | .listOf it, c, x, hf, h => by
    replace h := onCallN_inv h; obtain ⟨y, p, xs, q, rfl, h⟩ := h
    replace h := one_inv h; obtain ⟨z, rfl, h⟩ := h
    · simp only [Bool.and_eq_true] at h
      obtain ⟨⟨⟨hg, hz⟩, hl⟩, hi⟩ := h
      exact both (fun {A env lay Sys base st s} F => (sndI hc it c _ hf hi).2 hl F hg hz) fun _ _ => rfl
  | .join sp a, c, x, hf, h => by
    replace h := onCall_inv h; obtain ⟨g, xs, ks, pos, rfl, h⟩ := h
    replace h := (Bool.and_eq_true _ _).mp h; obtain ⟨hks, h⟩ := h
    replace h := one_inv h; obtain ⟨z, rfl, h⟩ := h
    replace h := onAttr_inv h; obtain ⟨o, n, ap, rfl, h⟩ := h
    simp only [Bool.and_eq_true, decide_eq_true_eq] at h
    obtain ⟨⟨⟨⟨⟨rfl, hz⟩, hl⟩, hs⟩, hst⟩, ha⟩ := h
    cases ks with
    | cons => exact ff hks
    | nil =>
    cases sp with
    | str u =>
      replace hs := onConst_inv hs; obtain ⟨v, kk, pp, rfl, hs⟩ := hs
      simp only [Bool.and_eq_true, decide_eq_true_eq] at hs
      obtain ⟨⟨rfl, h1⟩, h2⟩ := hs
      have ho : SOk u := ⟨h1, fun c hc => by
        have := h2
        rw [← Array.all_toList, List.all_eq_true] at this
        simpa using this c hc⟩
      exact both (fun {A env lay Sys base st s} F => se_join F hl ho hz (sndE hc a c _ hf ha).1) fun _ _ => rfl
    | _ => exact ff hst
  | .get a b e, c, x, hf, h => ff h
  | .dict0, c, x, hf, h => ff h
  | .attr a n, c, x, hf, h => by
    replace h := onAttr_inv h; obtain ⟨o, m, p, rfl, h⟩ := h
    replace h := (Bool.and_eq_true _ _).mp h; obtain ⟨h, h3⟩ := h
    replace h := (Bool.and_eq_true _ _).mp h; obtain ⟨h1, h2⟩ := h
    cases of_decide_eq_true h1
    exact both (fun {A env lay Sys base st s} F => se_attr F (sndE hc a c _ hf h3).1 h2) fun _ _ => rfl
  | .new f es, c, x, hf, h => by
    replace h := onCallN_inv h; obtain ⟨y, p, xs, q, rfl, h⟩ := h
    replace h := (Bool.and_eq_true _ _).mp h; obtain ⟨h, h3⟩ := h
    replace h := (Bool.and_eq_true _ _).mp h; obtain ⟨h1, h2⟩ := h
    obtain ⟨z, r, rfl⟩ := some1_inv h1
    exact both (fun {A env lay Sys base st s} F => se_new F h2 (sndEs hc es c _ hf h3)) fun _ _ => rfl
  | .comp elt t it, c, x, hf, h => by
    replace h := onLC_inv h; obtain ⟨y, gs, sc, p, rfl, h⟩ := h
    replace h := one_inv h; obtain ⟨g, rfl, h⟩ := h
    replace h := (Bool.and_eq_true _ _).mp h; obtain ⟨h0, h⟩ := h
    replace h0 := (Bool.and_eq_true _ _).mp h0; obtain ⟨hz, h0⟩ := h0
    obtain ⟨tg, iter, ifs, ias⟩ := g
    have e0 := of_decide_eq_true h0
    simp only at hz e0 h
    cases ifs with
    | cons => exact ff hz
    | nil =>
    subst e0
    split at h
    · rename_i xs hx
      have hf' : (inner c xs sc.names).fns = G.tbl.map (·.1) := hf
      simp only [Bool.and_eq_true, Bool.not_eq_true'] at h
      obtain ⟨⟨⟨⟨⟨⟨h1, h2⟩, h3⟩, h4⟩, h0⟩, h5⟩, h6⟩ := h
      exact both (fun {A env lay Sys base st s} F => se_comp F ((sndI hc it c _ hf h5).1 (ezOk_walk h0)) h4 (ezOk_inv h0) (tableOk_eq h2) h1 h3 (sndE hc elt _ _ hf' h6).1) fun _ _ => rfl
    · cases h
  | .compIf elt t it cd, c, x, hf, h => by
    replace h := onLC_inv h; obtain ⟨y, gs, sc, p, rfl, h⟩ := h
    replace h := one_inv h; obtain ⟨g, rfl, h⟩ := h
    replace h := (Bool.and_eq_true _ _).mp h; obtain ⟨h0, h⟩ := h
    replace h := one_inv h; obtain ⟨z, hz, h⟩ := h
    obtain ⟨tg, iter, ifs, ias⟩ := g
    have e0 := of_decide_eq_true h0
    simp only at hz e0 h
    subst hz e0
    split at h
    · rename_i xs hx
      have hf' : (inner c xs sc.names).fns = G.tbl.map (·.1) := hf
      simp only [Bool.and_eq_true, Bool.not_eq_true'] at h
      obtain ⟨⟨⟨⟨⟨⟨⟨h1, h2⟩, h3⟩, h4⟩, h0⟩, h5⟩, h6⟩, h7⟩ := h
      exact both (fun {A env lay Sys base st s} F => se_compIf F ((sndI hc it c _ hf h5).1 (ezOk_walk h0)) h4 (ezOk_inv h0) (tableOk_eq h2) h1 h3 (sndE hc elt _ _ hf' h7).1 (sndE hc cd _ _ hf' h6).2) fun _ _ => rfl
    · cases h
theorem sndEs (hc : CallSnd G d) : ∀ (es : Es) (c : Sc) (xs : List Expr), c.fns = G.tbl.map (·.1) → chkEs c es xs = true → SEs G d c es xs
  | .nil, c, xs, hf, h => by
    cases xs with
    | nil => exact ses_nil
    | cons => exact ff h
  | .cons e es, c, xs, hf, h => by
    cases xs with
    | nil => exact ff h
    | cons x r =>
      replace h := (Bool.and_eq_true _ _).mp h; obtain ⟨h, h3⟩ := h
      replace h := (Bool.and_eq_true _ _).mp h; obtain ⟨h1, h2⟩ := h
      exact ses_cons h1 (sndE hc e c _ hf h2).1 (sndEs hc es c _ hf h3)
theorem sndCh (hc : CallSnd G d) : ∀ (ch : Ch) (c : Sc) (ops : List CmpOp) (xs : List Expr), c.fns = G.tbl.map (·.1) → chkCh c ch ops xs = true → SCh G d c ch ops xs
  | .one op e, c, ops, xs, hf, h => by
    replace h := one_inv h; obtain ⟨o, rfl, h⟩ := h
    replace h := one_inv h; obtain ⟨x, rfl, h⟩ := h
    replace h := (Bool.and_eq_true _ _).mp h; obtain ⟨h1, h2⟩ := h
    have e1 := of_decide_eq_true h1
    subst e1
    exact sch_one (sndE hc e c _ hf h2).1
  | .more op e ch, c, ops, xs, hf, h => by
    rcases ops with _ | ⟨o, ops⟩
    · exact ff h
    rcases xs with _ | ⟨x, xs⟩
    · exact ff h
    replace h := (Bool.and_eq_true _ _).mp h; obtain ⟨h, h3⟩ := h
    replace h := (Bool.and_eq_true _ _).mp h; obtain ⟨h, h2⟩ := h
    replace h := (Bool.and_eq_true _ _).mp h; obtain ⟨h, h1⟩ := h
    replace h := (Bool.and_eq_true _ _).mp h; obtain ⟨ha, hb⟩ := h
    have e1 := of_decide_eq_true h1
    subst e1
    obtain ⟨o2, ops, rfl⟩ := some1_inv ha
    obtain ⟨x2, xs, rfl⟩ := some1_inv hb
    exact sch_more (sndE hc e c _ hf h2).1 (sndCh hc ch c _ _ hf h3)
theorem sndI (hc : CallSnd G d) : ∀ (it : It) (c : Sc) (x : Expr), c.fns = G.tbl.map (·.1) → chkI c it x = true → (walk it = true → SI G d c it x) ∧ (listable it = true → SL G d c it x)
  | .seq e, c, x, hf, h => by
    exact ⟨fun _ => si_seq (sndE hc e c _ hf h).1,
      fun _ => sl_seq (sndE hc e c _ hf h).1⟩
  | .rev e, c, x, hf, h => ff h
  | .range1 e, c, x, hf, h => by
    replace h := onCallN_inv h; obtain ⟨y, p, xs, q, rfl, h⟩ := h
    replace h := one_inv h; obtain ⟨z, rfl, h⟩ := h
    · simp only [Bool.and_eq_true] at h
      obtain ⟨⟨h1, h2⟩, h3⟩ := h
      exact ⟨fun _ => si_range1 h1 h2 (sndE hc e c _ hf h3).1,
        fun q => ff q⟩
  | .range2 a b, c, x, hf, h => ff h
  | .range3 a b e, c, x, hf, h => ff h
  | .enum e, c, x, hf, h => ff h
  | .keys e, c, x, hf, h => ff h
  | .zip a b, c, x, hf, h => ff h
end
end

end Mine
end

section
set_option autoImplicit false
namespace Mine
open PySem

/-- the tracked things grew by new ones -/
structure Gr (H H' : AH) (s : Shared) : Prop where
  stay : ∀ b, H b ≠ none → H' b = H b
  new : ∀ b, H' b ≠ none → H b = none → s.heap.get? b = none
theorem Gr.refl (H : AH) (s : Shared) : Gr H H s := ⟨fun _ _ => rfl, fun _ h e => absurd e h⟩
theorem Gr.trans {H H' H'' : AH} {s s' : Shared} (x : Gr H H' s) (y : Gr H' H'' s') (k : Kp s s') : Gr H H'' s where
  stay := fun b h => by
    have := x.stay b h
    rw [y.stay b (by rw [this]; exact h), this]
  new := fun b h e => by
    cases q : H' b with
    | none => exact fresh_keeps k (y.new b h q)
    | some o => exact x.new b (by rw [q]; simp) e
theorem upd_self (H : AH) (a : Nat) (o : AO) : H.upd a o a = some o := by simp [AH.upd]
theorem upd_other (H : AH) {a b : Nat} (o : AO) (h : b ≠ a) : H.upd a o b = H b := by simp [AH.upd, h]

theorem RV.grow {H H' : AH} {Sys : Addr → Prop} {s s' : Shared} {v : V} {x : Value} (r : RV (NN H Sys) s.heap v x) (g : Gr H H' s) (k : HK s.heap s'.heap) : RV (NN H' Sys) s'.heap v x :=
  r.gen (fun b q => by
    rcases q with q | q
    · cases e : H b with
      | none => exact .inr (g.new b q e)
      | some o => exact .inl (.inl (by rw [e]; simp))
    · exact .inl (.inr q)) fun b o _ e => k b o e
/-- a new thing is tracked from now on -/
theorem Sim.track {hsh : HFn} {T : Heap → Prop} {lay : Nat → Option Place} {Sys : Addr → Prop} {base : Heap} {st : St} {s s' : Shared} {a : Addr} {o : AO} (S : Sim hsh T lay Sys base st s.heap) (k : HK s.heap s'.heap) (hf : s.heap.get? a = none) (ro : RO hsh (NN (st.H.upd a o) Sys) s'.heap a o) :
    Sim hsh T lay Sys base { st with H := st.H.upd a o } s'.heap := by
  have hfa : st.H a = none := S.fresh hf
  have g : Gr st.H (st.H.upd a o) s := ⟨fun b h => upd_other _ _ (fun e => h (e ▸ hfa)), fun b h e => by
    by_cases q : b = a
    · subst q; exact hf
    · rw [upd_other _ _ q] at h; exact absurd e h⟩
  have hN : ∀ b, NN (st.H.upd a o) Sys b → NN st.H Sys b ∨ s.heap.get? b = none := fun b q => by
    rcases q with q | q
    · cases e : st.H b with
      | none => exact .inr (g.new b q e)
      | some o => exact .inl (.inl (by rw [e]; simp))
    · exact .inl (.inr q)
  refine ⟨S.keep.trans k, S.top, fun i v p a' b => ?_, fun i p a => (S.ok i p a).keeps k, S.inj, fun i p h => ?_, fun b o' e => ?_, fun b h hB => ?_, (S.keeps k).live, S.ent⟩
  · obtain ⟨val, x, y⟩ := S.vals i v p a' b
    exact ⟨val, x.keeps k, y.grow g k⟩
  · have hs := S.sys i p h
    refine ⟨hs.1, hs.2.1, ?_⟩
    show st.H.upd a o p.addr = none
    rw [upd_other _ _ (fun e : p.addr = a => S.live _ hs.1 (by rw [e]; exact hf))]; exact hs.2.2
  · by_cases q : b = a
    · subst q
      have e : st.H.upd b o b = some o' := e
      rw [upd_self] at e; cases e; exact ro
    · have e : st.H.upd a o b = some o' := e
      rw [upd_other _ _ q] at e
      exact (S.objs b o' e).gen hN (fun b o _ e => k b o e) fun o e => k b o e
  · by_cases q : b = a
    · subst q
      cases e : base.get? b with
      | none => rfl
      | some o => rw [S.keep _ _ e] at hf; cases hf
    · have h : st.H.upd a o b ≠ none := h
      rw [upd_other _ _ q] at h; exact S.own b h hB

theorem Sim.freshB {hsh : HFn} {T : Heap → Prop} {lay : Nat → Option Place} {Sys : Addr → Prop} {base : Heap} {st : St} {h : Heap} (S : Sim hsh T lay Sys base st h) {a : Addr} (e : h.get? a = none) : st.B a = none := by
  cases q : st.B a with
  | none => rfl
  | some o =>
    obtain ⟨ob, e'⟩ := S.ent a (by rw [q]; simp)
    rw [S.keep _ _ e'] at e; cases e

section
variable {G : PG} {d : Nat} {c : Sc} {A : Around} {env : Env} {lay : Nat → Option Place} {Sys : Addr → Prop} {base : Heap} {st : St} {s : Shared}

noncomputable abbrev SA (G : PG) (d : Nat) (c : Sc) (a : Mine.A) (x : Expr) : Prop :=
  ∀ {A : Around} {env : Env} {lay : Nat → Option Place} {Sys : Addr → Prop} {base : Heap} {st : St} {s : Shared}, Fx G d c A env lay Sys base st s →
    ∀ (Q : V → AH → Prop) (X : String → Prop) (K : Value → Shared → Prop) (E : Value → Shared → Prop), WA (G.cx d) a st Q X →
      (∀ v H' val s', Q v H' → Fx G d c A env lay Sys base { st with H := H' } s' → RV (NN H' Sys) s'.heap v val → Kp s s' → Gr st.H H' s → K val s') → (∀ e s', Rz s X e s' → E e s') →
      wpAny (model G.prog G.w) A (eval x env) K E s

noncomputable abbrev SAs (G : PG) (d : Nat) (c : Sc) (as : As) (xs : List Expr) : Prop :=
  xs.all noStar = true ∧ ∀ {A : Around} {env : Env} {lay : Nat → Option Place} {Sys : Addr → Prop} {base : Heap} {st : St} {s : Shared}, Fx G d c A env lay Sys base st s →
    ∀ (pos : Pos) (Q : List V → AH → Prop) (X : String → Prop) (K : List Value → Shared → Prop) (E : Value → Shared → Prop), WAs (G.cx d) as st Q X →
      (∀ vs H' vals s', Q vs H' → Fx G d c A env lay Sys base { st with H := H' } s' → RVs (NN H' Sys) s'.heap vs vals → Kp s s' → Gr st.H H' s → K vals s') → (∀ e s', Rz s X e s' → E e s') →
      wpAny (model G.prog G.w) A (spliced (backTo pos (starEach xs env))) K E s

theorem sa_pure {e : E} {x : Expr} (he : SE G d c e x) : SA G d c (.pure e) x := by
  intro A env lay Sys base st s F Q X K E hW hK hX
  simp only [wa_0, wa_1, wa_2, wa_3, wa_4] at hW
  exact (he F).weak _ X _ E hW (fun v val s' q r k _ => hK v st.H val s' q (F.keeps k) r k (Gr.refl _ _)) hX
theorem sa_thaw {e : E} {x : Expr} (he : SE G d c e x) (hf : isFresh e = true) : SA G d c (.thaw e) x := by
  intro A env lay Sys base st s F Q X K E hW hK hX
  simp only [wa_0, wa_1, wa_2, wa_3, wa_4] at hW
  refine he F _ X _ E hW (fun v val s' q r k fr => ?_) hX
  split at q
  · rename_i vs
    cases r with
    | lst h1 h2 h3 h4 =>
      rename_i a xs n
      obtain ⟨hfa, hv⟩ := fr hf a rfl
      obtain ⟨ys, m, hl, hz, hr⟩ := hv vs rfl
      have S' := F.sim.track (o := .list vs) k.hk hfa (.list hl hz (hr.less fun b q => by
        rcases q with q | q
        · by_cases e : b = a
          · exact .inr e
          · rw [upd_other _ _ e] at q; exact .inl (.inl q)
        · exact .inl (.inr q)))
      refine hK _ _ _ _ (q a ⟨F.sim.fresh hfa, F.sim.freshB hfa⟩) ⟨F.rm, F.eo, F.us, S'⟩ (.ref a) k ⟨fun b h => upd_other _ _ (fun e => h (e ▸ F.sim.fresh hfa)), fun b h e => ?_⟩
      by_cases q : b = a
      · subst q; exact hfa
      · rw [upd_other _ _ q] at h; exact absurd e h
  · exact q.elim
theorem sa_new {cn : String} {es : Es} {y : Str} {z : Expr} {xs : List Expr} {p pos : Pos} (hg : isGlob c y cn = true) (h : SEs G d c es (z :: xs)) : SA G d c (.new cn es) (.Call (.Name y p) (z :: xs) [] pos) := by
  intro A env lay Sys base st s F Q X K E hW hK hX
  simp only [wa_0, wa_1, wa_2, wa_3, wa_4] at hW
  split at hW
  · rename_i k n fs hlk
    refine ev_new F hg h hlk hW (fun vs x dx ys h₁ s' q k₁ fx fd hne i o r fd₁ kk => ?_) hX
    have hfd := F.sim.fresh fd
    have hu : ∀ b, (st.H.upd dx (.inst k (fs.map (·.1)) (fs.map fun f => iniV vs f.2))) b ≠ none → st.H b = none → s.heap.get? b = none := fun b hb e => by
      by_cases q : b = dx
      · rw [q]; exact fd
      · rw [upd_other _ _ q] at hb; exact absurd e hb
    have g : Gr st.H (st.H.upd dx (.inst k (fs.map (·.1)) (fs.map fun f => iniV vs f.2))) s := ⟨fun b h => upd_other _ _ (fun e => h (e ▸ hfd)), hu⟩
    have nx : ¬ NN (st.H.upd dx (.inst k (fs.map (·.1)) (fs.map fun f => iniV vs f.2))) Sys x := fun q => by
      rcases q with q | q
      · rw [upd_other _ _ hne] at q; exact q (F.sim.fresh fx)
      · exact F.sim.live x q fx
    -- the parts stood ahead
    have r' : RVs (NN (st.H.upd dx (.inst k (fs.map (·.1)) (fs.map fun f => iniV vs f.2))) Sys) s'.heap (fs.map fun f => iniV vs f.2) ys := r.gen (fun b q => by
      rcases q with q | q
      · by_cases e : b = dx
        · exact .inr (e ▸ fd₁)
        · rw [upd_other _ _ e] at q; exact .inl (.inl q)
      · exact .inl (.inr q)) fun b o _ e => kk b o e
    have S' := F.sim.track (s := s) (s' := s') (o := .inst k (fs.map (·.1)) (fs.map fun f => iniV vs f.2)) k₁.hk fd (.inst o r')
    exact hK _ _ _ _ (q dx ⟨hfd, F.sim.freshB fd⟩) ⟨F.rm, F.eo, F.us, S'⟩ (.iref nx i) k₁ g
  · exact hW.elim
theorem sas_nil : SAs G d c .nil [] :=
  ⟨rfl, fun {A env lay Sys base st s} F pos Q X K E hW hK _ => wpAny_items_nil (hK [] st.H [] s (by simpa [was_0, was_1] using hW) F .nil (Kp.refl s) (Gr.refl _ _))⟩
theorem sas_cons {a : Mine.A} {as : As} {x : Expr} {xs : List Expr} (hn : noStar x = true) (ha : SA G d c a x) (has : SAs G d c as xs) : SAs G d c (.cons a as) (x :: xs) := by
  refine ⟨by simp [hn, has.1], fun {A env lay Sys base st s} F pos Q X K E hW hK hX => ?_⟩
  simp only [was_0, was_1] at hW
  refine wpAny_items_cons (ha F _ X _ E hW (fun v H' va s₁ h₁ F₁ r₁ k₁ g₁ => ?_) hX) (starEach_cons hn)
  exact has.2 F₁ pos _ X _ E h₁ (fun vs H'' vals s' q F' r k g => hK (v :: vs) H'' (va :: vals) s' q F' (.cons (r₁.grow g k.hk) r) (k₁.trans k) (g₁.trans g k₁)) fun e s' q => hX e s' (Rz.trans k₁ q)
theorem sa_list {as : As} {xs : List Expr} {pos : Pos} (h : SAs G d c as xs) : SA G d c (.list as) (.List xs pos) := by
  intro A env lay Sys base st s F Q X K E hW hK hX
  simp only [wa_0, wa_1, wa_2, wa_3, wa_4] at hW
  refine wpAny_List (h.2 F pos _ X _ E hW (fun vs H' vals s₁ h₁ F₁ r₁ k₁ g₁ => ?_) hX)
  have hl := r₁.length
  have hf := fresh_size s₁.heap
  refine ⟨by rw [← hl]; exact h₁.1, ?_⟩
  have hu : ∀ b, (H'.upd s₁.heap.objs.size (.list vs)) b ≠ none → H' b = none → s₁.heap.get? b = none := fun b hb e => by
    by_cases q : b = s₁.heap.objs.size
    · rw [q]; exact hf
    · rw [upd_other _ _ q] at hb; exact absurd e hb
  have hfa : H' s₁.heap.objs.size = none := F₁.sim.fresh hf
  have r' : RVs (NN H' Sys) s₁.heap vs vals.toArray.toList := by simpa using r₁
  have S' := F₁.sim.track (s := s₁) (s' := { s₁ with heap := s₁.heap.push { cls := .type "list", data := .seq vals.toArray } }) (o := .list vs) (HK.push _ _) hf
    (.list (IsL.new _ _) (by simpa [← hl] using h₁.1) (r'.gen (fun b q => by
        rcases q with q | q
        · cases e : H' b with
          | none => exact .inr (hu b q e)
          | some o => exact .inl (.inl (by rw [e]; simp))
        · exact .inl (.inr q)) (fun b o _ e => HK.push _ _ b o e)))
  have g : Gr H' (H'.upd s₁.heap.objs.size (.list vs)) s₁ := ⟨fun b h => upd_other _ _ (fun e => h (e ▸ hfa)), hu⟩
  exact hK _ _ _ _ (h₁.2 _ hfa (F₁.sim.freshB hf)) ⟨F.rm, F.eo, F.us, S'⟩ (.ref _) (k₁.trans (Kp.ofH (HK.push _ _))) (g₁.trans g k₁)
end

section
variable {G : PG} {d : Nat}
mutual
theorem sndA (hc : CallSnd G d) : ∀ (a : A) (c : Sc) (x : Expr), c.fns = G.tbl.map (·.1) → chkA c a x = true → SA G d c a x
  | .pure e, c, x, hf, h => sa_pure (sndE hc e c x hf h).1
  | .thaw e, c, x, hf, h => by
    replace h := (Bool.and_eq_true _ _).mp h
    exact sa_thaw (sndE hc e c x hf h.2).1 h.1
  | .list as, c, x, hf, h => by
    replace h := onList_inv h; obtain ⟨xs, p, rfl, h⟩ := h
    exact sa_list (sndAs hc as c _ hf h)
  | .dict, c, x, hf, h => ff h
  | .new f es, c, x, hf, h => by
    replace h := onCallN_inv h; obtain ⟨y, p, xs, q, rfl, h⟩ := h
    replace h := (Bool.and_eq_true _ _).mp h; obtain ⟨h, h3⟩ := h
    replace h := (Bool.and_eq_true _ _).mp h; obtain ⟨h1, h2⟩ := h
    obtain ⟨z, r, rfl⟩ := some1_inv h1
    exact sa_new h2 (sndEs hc es c _ hf h3)
theorem sndAs (hc : CallSnd G d) : ∀ (as : As) (c : Sc) (xs : List Expr), c.fns = G.tbl.map (·.1) → chkAs c as xs = true → SAs G d c as xs
  | .nil, c, xs, hf, h => by
    cases xs with
    | nil => exact sas_nil
    | cons => exact ff h
  | .cons a as, c, xs, hf, h => by
    cases xs with
    | nil => exact ff h
    | cons x r =>
      replace h := (Bool.and_eq_true _ _).mp h; obtain ⟨h, h3⟩ := h
      replace h := (Bool.and_eq_true _ _).mp h; obtain ⟨h1, h2⟩ := h
      exact sas_cons h1 (sndA hc a c _ hf h2) (sndAs hc as c _ hf h3)
end
end

end Mine
end

section
set_option autoImplicit false
namespace Mine
open PySem

/-- what a statement leaves as it was -/
structure Ps (q : Bool) (lay : Nat → Option Place) (st : St) (s : Shared) (st' : St) (s' : Shared) : Prop where
  sh : ∃ h' tk, s' = { s with heap := h', toks := tk }
  old : ∀ b o, st.H b = none → (∀ i p, lay i = some p → b ≠ p.addr) → s.heap.get? b = some o → s'.heap.get? b = some o
  new : ∀ b, st'.H b ≠ none → st.H b = none → s.heap.get? b = none
  stay : ∀ b, st.H b ≠ none → st'.H b ≠ none
  B : st'.B = st.B
  len : st'.ρ.length = st.ρ.length
  ext : ∀ b, s.heap.get? b ≠ none → s'.heap.get? b ≠ none
  qt : q = true → ∀ b o, (∀ i p, lay i = some p → b ≠ p.addr) → s.heap.get? b = some o → s'.heap.get? b = some o
theorem Ps.weak {q q' : Bool} {lay : Nat → Option Place} {st st' : St} {s s' : Shared} (x : Ps q lay st s st' s') (h : q' = true → q = true) : Ps q' lay st s st' s' := ⟨x.sh, x.old, x.new, x.stay, x.B, x.len, x.ext, fun e => x.qt (h e)⟩
theorem Ps.refl {q : Bool} {lay : Nat → Option Place} {st : St} {s : Shared} : Ps q lay st s st s := ⟨⟨s.heap, s.toks, rfl⟩, fun _ _ _ _ e => e, fun _ h e => absurd e h, fun _ h => h, rfl, rfl, fun _ h => h, fun _ _ _ _ e => e⟩
theorem Ps.trans {q : Bool} {lay : Nat → Option Place} {st st₁ st₂ : St} {s s₁ s₂ : Shared} (x : Ps q lay st s st₁ s₁) (y : Ps q lay st₁ s₁ st₂ s₂) : Ps q lay st s st₂ s₂ where
  sh := by
    obtain ⟨h1, t1, rfl⟩ := x.sh
    obtain ⟨h2, t2, rfl⟩ := y.sh
    exact ⟨h2, t2, rfl⟩
  old := fun b o h hp e => y.old b o (by
    cases q : st₁.H b with
    | none => rfl
    | some ob => rw [x.new b (by rw [q]; simp) h] at e; cases e) hp (x.old b o h hp e)
  new := fun b h e => by
    cases q : st₁.H b with
    | some o => exact x.new b (by rw [q]; simp) e
    | none =>
      cases q' : s.heap.get? b with
      | none => rfl
      | some o => exact absurd (y.new b h q) (x.ext b (by rw [q']; simp))
  stay := fun b h => y.stay b (x.stay b h)
  B := y.B.trans x.B
  len := y.len.trans x.len
  ext := fun b h => y.ext b (x.ext b h)
  qt := fun e b o hp h => y.qt e b o hp (x.qt e b o hp h)
theorem Ps.ofK {q : Bool} {lay : Nat → Option Place} {st : St} {H' : AH} {s s' : Shared} (k : Kp s s') (g : Gr st.H H' s) : Ps q lay st s { st with H := H' } s' where
  sh := let ⟨h', tk, e, _⟩ := k; ⟨h', tk, e⟩
  old := fun b o _ _ e => k.hk b o e
  new := g.new
  stay := fun b h => by show H' b ≠ none; rw [g.stay b h]; exact h
  B := rfl
  len := rfl
  ext := fun b h e => by
    cases q : s.heap.get? b with
    | none => exact h q
    | some o => rw [k.hk b o q] at e; cases e
  qt := fun _ b o _ e => k.hk b o e
theorem Ps.ofKp {q : Bool} {lay : Nat → Option Place} {st : St} {s s' : Shared} (k : Kp s s') : Ps q lay st s st s' := Ps.ofK k (Gr.refl _ _)
theorem Ps.ofTc {q : Bool} {hsh : HFn} {T : Heap → Prop} {lay : Nat → Option Place} {Sys : Addr → Prop} {base : Heap} {st : St} {ρ' : List (Option V)} {is : List Nat} {s : Shared} {h' : Heap} {tk : Nat} (S : Sim hsh T lay Sys base { st with ρ := ρ' } h') (t : Tc is lay s.heap h') (hl : ρ'.length = st.ρ.length) :
    Ps q lay st s { st with ρ := ρ' } { s with heap := h', toks := tk } where
  sh := ⟨h', tk, rfl⟩
  old := fun b o _ hp e => t b o (fun i _ p hi => hp i p hi) e
  new := fun b h e => absurd e h
  stay := fun _ h => h
  B := rfl
  len := hl
  ext := fun b h e => by
    cases q : s.heap.get? b with
    | none => exact h q
    | some o =>
      by_cases hp : ∃ i p, lay i = some p ∧ b = p.addr
      · obtain ⟨i, p, hi, rfl⟩ := hp
        exact S.live _ (S.sys i p hi).1 e
      · have := t b o (fun i _ p hi hb => hp ⟨i, p, hi, hb⟩) q
        rw [show ({ s with heap := h', toks := tk } : Shared).heap = h' from rfl, this] at e; cases e
  qt := fun _ b o hp e => t b o (fun i _ p hi => hp i p hi) e

inductive FlR (N : Addr → Prop) (h : Heap) : Fl → Flow → Prop
  | next : FlR N h .next .next
  | brk : FlR N h .brk .brk
  | cont : FlR N h .cont .cont
  | ret {v val} : RV N h v val → FlR N h (.ret v) (.ret val)

noncomputable def RzS (_st : St) (_s : Shared) (_X : String → St → Prop) (_e : Value) (_s' : Shared) : Prop := False

section
variable {G : PG} {d : Nat} {c : Sc} {A : Around} {env : Env} {lay : Nat → Option Place} {Sys : Addr → Prop} {base : Heap} {st : St} {s : Shared}

noncomputable abbrev SS (G : PG) (d : Nat) (c : Sc) (m : S) (x : Stmt) : Prop :=
  ∀ {A : Around} {env : Env} {lay : Nat → Option Place} {Sys : Addr → Prop} {base : Heap} {st : St} {s : Shared}, Fx G d c A env lay Sys base st s →
    ∀ (Q : Fl → St → Prop) (X : String → St → Prop) (K : Flow → Shared → Prop) (E : Value → Shared → Prop), WS (G.cx d) m st Q X →
      (∀ f fl st' s', Q f st' → FlR (NN st'.H Sys) s'.heap f fl → Fx G d c A env lay Sys base st' s' → Ps (quietS m) lay st s st' s' → K fl s') → (∀ e s', RzS st s X e s' → E e s') →
      wpAny (model G.prog G.w) A (exec x env) K E s
noncomputable abbrev SB (G : PG) (d : Nat) (c : Sc) (b : Bl) (xs : List Stmt) : Prop :=
  ∀ {A : Around} {env : Env} {lay : Nat → Option Place} {Sys : Addr → Prop} {base : Heap} {st : St} {s : Shared}, Fx G d c A env lay Sys base st s →
    ∀ (Q : Fl → St → Prop) (X : String → St → Prop) (K : Flow → Shared → Prop) (E : Value → Shared → Prop), WB (G.cx d) b st Q X →
      (∀ f fl st' s', Q f st' → FlR (NN st'.H Sys) s'.heap f fl → Fx G d c A env lay Sys base st' s' → Ps (quietB b) lay st s st' s' → K fl s') → (∀ e s', RzS st s X e s' → E e s') →
      wpAny (model G.prog G.w) A (execs xs env) K E s

theorem sb_nil : SB G d c .nil [] := by
  intro A env lay Sys base st s F Q X K E hW hK _
  simp only [wb_0, wb_1] at hW
  exact wpAny_execs_nil (hK _ _ st s hW .next F Ps.refl)
theorem and_l {a b : Bool} (h : (a && b) = true) : a = true := ((Bool.and_eq_true _ _).mp h).1
theorem and_r {a b : Bool} (h : (a && b) = true) : b = true := ((Bool.and_eq_true _ _).mp h).2
theorem sb_cons {m : S} {b : Bl} {x : Stmt} {xs : List Stmt} (hm : SS G d c m x) (hb : SB G d c b xs) : SB G d c (.cons m b) (x :: xs) := by
  intro A env lay Sys base st s F Q X K E hW hK hX
  simp only [wb_0, wb_1] at hW
  refine wpAny_execs_cons (hm F _ X _ E hW (fun f fl st' s' q r F' p => ?_) hX)
  cases r with
  | next => exact hb F' Q X K E q (fun f fl st'' s'' q r F'' p' => hK f fl st'' s'' q r F'' ((p.weak and_l).trans (p'.weak and_r))) fun e s' q => q.elim
  | brk => exact hK _ _ st' s' q .brk F' (p.weak and_l)
  | cont => exact hK _ _ st' s' q .cont F' (p.weak and_l)
  | ret r => exact hK _ _ st' s' q (.ret r) F' (p.weak and_l)

theorem swaps_none {x : Expr} {t : Option Expr} {l : Nat} (h : isComp x = false) : swapsWith x t l env = pure false := by
  cases x <;> first | rfl | exact nomatch h

theorem ss_expr {e : E} {y : Expr} {pos : Pos} (he : SE G d c e y) (hc : isComp y = false) : SS G d c (.expr e) (.Expr y pos) := by
  intro A env lay Sys base st s F Q X K E hW hK _
  simp only [ws_0, ws_1, ws_2, ws_3, ws_4, ws_5, ws_6, ws_7, ws_8, ws_9, ws_10, ws_11, ws_12, ws_13, pk_ret, pk_next] at hW
  refine wpAny_Expr_any ((he F).weak _ _ _ E hW (fun v val s' q r k _ => hK .next .next st s' q .next (F.keeps k) (Ps.ofKp k)) fun e s' q => q.elim) (by simp [interactive, F.eo.kind]) (swaps_none hc)

theorem ss_ret {e : E} {y : Expr} {pos : Pos} (he : SE G d c e y) : SS G d c (.ret e) (.Return (some y) pos) := by
  intro A env lay Sys base st s F Q X K E hW hK _
  simp only [ws_0, ws_1, ws_2, ws_3, ws_4, ws_5, ws_6, ws_7, ws_8, ws_9, ws_10, ws_11, ws_12, ws_13, pk_ret, pk_next] at hW
  exact wpAny_Return_some ((he F).weak _ _ _ E hW (fun v val s' q r k _ => hK (.ret v) (.ret val) st s' q (.ret r) (F.keeps k) (Ps.ofKp k)) fun e s' q => q.elim)

theorem ss_ite {t : E} {a b : Bl} {y : Expr} {bs os : List Stmt} {pos : Pos} (ht : ST G d c t y) (ha : SB G d c a bs) (hb : SB G d c b os) : SS G d c (.ite t a b) (.If y bs os pos) := by
  intro A env lay Sys base st s F Q X K E hW hK _
  simp only [ws_0, ws_1, ws_2, ws_3, ws_4, ws_5, ws_6, ws_7, ws_8, ws_9, ws_10, ws_11, ws_12, ws_13, pk_ret, pk_next] at hW
  refine wpAny_If (ht F (fun r => if r then WB (G.cx d) a st Q X else WB (G.cx d) b st Q X) _ _ E (WE_cg hW fun u => ?_) (fun r s₁ q k => ?_) fun e s' q => q.elim)
  · cases truthV st.H u with
    | none => rfl
    | some r => cases r <;> rfl
  · cases r
    · simp only [Bool.false_eq_true, if_false] at q ⊢
      exact hb (F.keeps k) Q X K E q (fun f fl st' s' q' r' F' p => hK f fl st' s' q' r' F' ((Ps.ofKp k).trans (p.weak and_r))) fun e s' q => q.elim
    · simp only [if_true] at q ⊢
      exact ha (F.keeps k) Q X K E q (fun f fl st' s' q' r' F' p => hK f fl st' s' q' r' F' ((Ps.ofKp k).trans (p.weak and_l))) fun e s' q => q.elim

theorem ss_raise {k : String} {e : E} {x : Stmt} : SS G d c (.raise k e) x := by
  intro A env lay Sys base st s F Q X K E hW hK _
  simp only [ws_0, ws_1, ws_2, ws_3, ws_4, ws_5, ws_6, ws_7, ws_8, ws_9, ws_10, ws_11, ws_12, ws_13, pk_ret, pk_next] at hW

/-- plain stores -/
theorem asg_plain {tg y : Expr} {pos : Pos} {K : Flow → Shared → Prop} {E : Value → Shared → Prop} (hs : swapsWithSole [tg] y pos.line env = pure false) (hw : swappedStores [tg] y env = pure none) (hst : noStar tg = true)
    (h : wpAny (model G.prog G.w) A (eval y env) (fun v s₁ => wpAny (model G.prog G.w) A (assign tg env v) (fun _ s₂ => K .next s₂) E s₁) E s) : wpAny (model G.prog G.w) A (exec (.Assign [tg] y pos) env) K E s := by
  refine wpAny_Assign_stores (wpAny_mono h (fun v s₁ h₁ => ?_) fun _ _ x => x) hs hw
  have e : (assignEach [tg] env).map (·.2) = [assign tg env] := by cases tg <;> first | rfl | exact ff hst
  rw [e]
  exact h₁
end

end Mine
end

section
set_option autoImplicit false
namespace Mine
open PySem

/-- more things off limits, and more tracked -/
theorem Sim.gen {hsh : HFn} {T : Heap → Prop} {lay : Nat → Option Place} {Sys New : Addr → Prop} {base : Heap} {st : St} {H' : AH} {h h' : Heap} (S : Sim hsh T lay Sys base st h) (k : HK h h') (hn : ∀ b, New b → h.get? b = none) (hn' : ∀ b, New b → h'.get? b ≠ none)
    (hstay : ∀ b, st.H b ≠ none → H' b = st.H b) (hnew : ∀ b, H' b ≠ none → st.H b = none → h.get? b = none) (hro : ∀ b o, H' b = some o → st.H b = none → RO hsh (NN H' (fun a => Sys a ∨ New a)) h' b o) :
    Sim hsh T lay (fun a => Sys a ∨ New a) base { st with H := H' } h' := by
  have hN : ∀ b, NN H' (fun a => Sys a ∨ New a) b → NN st.H Sys b ∨ h.get? b = none := fun b q => by
    rcases q with q | q | q
    · cases e : st.H b with
      | none => exact .inr (hnew b q e)
      | some o => exact .inl (.inl (by rw [e]; simp))
    · exact .inl (.inr q)
    · exact .inr (hn b q)
  refine ⟨S.keep.trans k, S.top, fun i v p a b => ?_, fun i p a => (S.ok i p a).keeps k, S.inj, fun i p a => ?_, fun a o e => ?_, fun a h1 h2 => ?_, fun a q e => ?_, S.ent⟩
  · obtain ⟨val, x, y⟩ := S.vals i v p a b
    exact ⟨val, x.keeps k, y.gen hN fun b o _ e => k b o e⟩
  · have hs := S.sys i p a
    refine ⟨.inl hs.1, hs.2.1, ?_⟩
    show H' p.addr = none
    cases e : H' p.addr with
    | none => rfl
    | some o => exact absurd (hnew _ (by rw [e]; simp) hs.2.2) (S.live _ hs.1)
  · cases e' : st.H a with
    | none => exact hro a o e e'
    | some o' =>
      have : H' a = some o := e
      rw [hstay a (by rw [e']; simp)] at this
      exact (S.objs a o this).gen hN (fun b o _ e => k b o e) fun o e => k a o e
  · cases e : st.H a with
    | some o => exact S.own a (by rw [e]; simp) h2
    | none =>
      have := hnew a h1 e
      cases e' : base.get? a with
      | none => rfl
      | some o => rw [S.keep _ _ e'] at this; cases this
  · rcases q with q | q
    · exact (S.keeps k).live a q e
    · exact hn' a q e

/-- leaving what was off limits for a while -/
theorem Sim.leave {hsh : HFn} {T : Heap → Prop} {lay : Nat → Option Place} {Sys New : Addr → Prop} {base : Heap} {st : St} {h h' : Heap} (S : Sim hsh T lay (fun a => Sys a ∨ New a) base st h) (hk : ∀ b o, ¬ New b → h.get? b = some o → h'.get? b = some o)
    (hlay : ∀ i p, lay i = some p → Sys p.addr) (hSN : ∀ a, Sys a → ¬ New a) (hH : ∀ b, st.H b ≠ none → ¬ New b) (hbase : ∀ b, New b → base.get? b = none) : Sim hsh T lay Sys base st h' := by
  have hN : ∀ b, NN st.H Sys b → NN st.H (fun a => Sys a ∨ New a) b ∨ h.get? b = none := fun b q => .inl (q.elim .inl fun q => .inr (.inl q))
  have hk' : ∀ b o, ¬ NN st.H (fun a => Sys a ∨ New a) b → h.get? b = some o → h'.get? b = some o := fun b o nb e => hk b o (fun q => nb (.inr (.inr q))) e
  have hpl : ∀ i p, lay i = some p → ∀ o, h.get? p.addr = some o → h'.get? p.addr = some o := fun i p hp o e => hk _ o (hSN _ (hlay i p hp)) e
  refine ⟨fun b o e => hk b o (fun q => by rw [hbase b q] at e; cases e) (S.keep b o e), S.top, fun i v p a b => ?_, fun i p a => ?_, S.inj, fun i p a => ⟨hlay i p a, (S.sys i p a).2⟩, fun a o e => ?_, S.own, fun a q e => ?_, S.ent⟩
  · obtain ⟨val, x, y⟩ := S.vals i v p a b
    refine ⟨val, ?_, y.gen hN hk'⟩
    have hp := hpl i p b
    cases p with
    | loc L z =>
      obtain ⟨m, ⟨o, es, ep, ho, r⟩, e⟩ := x
      exact ⟨m, ⟨o, es, ep, hp o ho, r⟩, e⟩
    | cell cc =>
      obtain ⟨o, ho, r⟩ := x
      exact ⟨o, hp o ho, r⟩
  · have hp := hpl i p a
    have x := S.ok i p a
    cases p with
    | loc L z =>
      obtain ⟨m, o, es, ep, ho, r⟩ := x
      exact ⟨m, o, es, ep, hp o ho, r⟩
    | cell cc =>
      obtain ⟨v, o, ho, r⟩ := x
      exact ⟨v, o, hp o ho, r⟩
  · refine (S.objs a o e).gen hN hk' fun o' e' => hk a o' (hH a (by rw [e]; simp)) e'
  · cases q' : h.get? a with
    | none => exact S.live a (.inl q) q'
    | some o => rw [hk a o (hSN a q) q'] at e; cases e

/-- a tracked thing of the frame's own is turned -/
theorem Sim.write {hsh : HFn} {T : Heap → Prop} {lay : Nat → Option Place} {Sys : Addr → Prop} {base : Heap} {st : St} {h h' : Heap} {ad : Addr} {o o' : AO} (S : Sim hsh T lay Sys base st h) (ho : st.H ad = some o) (hB : st.B ad = none)
    (hk : ∀ b ob, b ≠ ad → h.get? b = some ob → h'.get? b = some ob) (ro : RO hsh (NN (st.H.upd ad o') Sys) h' ad o') : Sim hsh T lay Sys base { st with H := st.H.upd ad o' } h' := by
  have hb : base.get? ad = none := S.own ad (by rw [ho]; simp) hB
  have hN : ∀ b, NN (st.H.upd ad o') Sys b → NN st.H Sys b ∨ h.get? b = none := fun b q => by
    rcases q with q | q
    · by_cases e : b = ad
      · subst e; exact .inl (.inl (by rw [ho]; simp))
      · rw [upd_other _ _ e] at q; exact .inl (.inl q)
    · exact .inl (.inr q)
  have hk' : ∀ b ob, ¬ NN st.H Sys b → h.get? b = some ob → h'.get? b = some ob := fun b ob nb e => hk b ob (fun q => nb (.inl (by rw [q, ho]; simp))) e
  have hpl : ∀ i p, lay i = some p → p.addr ≠ ad := fun i p hp e => by have := (S.sys i p hp).2.2; rw [e, ho] at this; cases this
  refine ⟨fun b ob e => hk b ob (fun q => by rw [q, hb] at e; cases e) (S.keep b ob e), S.top, fun i v p a b => ?_, fun i p a => ?_, S.inj, fun i p a => ?_, fun a ob e => ?_, fun a h1 h2 => ?_, fun a q e => ?_, S.ent⟩
  · obtain ⟨val, x, y⟩ := S.vals i v p a b
    refine ⟨val, ?_, y.gen hN hk'⟩
    have hp := hpl i p b
    cases p with
    | loc L z =>
      obtain ⟨m, ⟨o, es, ep, ho, r⟩, e⟩ := x
      exact ⟨m, ⟨o, es, ep, hk _ o hp ho, r⟩, e⟩
    | cell cc =>
      obtain ⟨o, ho, r⟩ := x
      exact ⟨o, hk _ o hp ho, r⟩
  · have hp := hpl i p a
    have x := S.ok i p a
    cases p with
    | loc L z =>
      obtain ⟨m, o, es, ep, ho, r⟩ := x
      exact ⟨m, o, es, ep, hk _ o hp ho, r⟩
    | cell cc =>
      obtain ⟨v, o, ho, r⟩ := x
      exact ⟨v, o, hk _ o hp ho, r⟩
  · have hs := S.sys i p a
    refine ⟨hs.1, hs.2.1, ?_⟩
    show st.H.upd ad o' p.addr = none
    rw [upd_other _ _ (hpl i p a)]; exact hs.2.2
  · by_cases q : a = ad
    · subst q
      have e : st.H.upd a o' a = some ob := e
      rw [upd_self] at e; cases e; exact ro
    · have e : st.H.upd ad o' a = some ob := e
      rw [upd_other _ _ q] at e
      exact (S.objs a ob e).gen hN hk' fun o1 e1 => hk a o1 q e1
  · by_cases q : a = ad
    · subst q; exact hb
    · have h1 : st.H.upd ad o' a ≠ none := h1
      rw [upd_other _ _ q] at h1; exact S.own a h1 h2
  · by_cases q' : a = ad
    · subst q'
      obtain ⟨ob, e'⟩ := ro.exists
      rw [e'] at e; cases e
    · cases q2 : h.get? a with
      | none => exact S.live a q q2
      | some ob => rw [hk a ob q' q2] at e; cases e
theorem Ps.write {lay : Nat → Option Place} {st : St} {s : Shared} {h' : Heap} {tk : Nat} {ad : Addr} {o o' : AO} (ho : st.H ad = some o) (hk : ∀ b ob, b ≠ ad → s.heap.get? b = some ob → h'.get? b = some ob) (hx : h'.get? ad ≠ none) :
    Ps false lay st s { st with H := st.H.upd ad o' } { s with heap := h', toks := tk } where
  sh := ⟨h', tk, rfl⟩
  old := fun b ob hb _ e => hk b ob (fun q => by rw [q, ho] at hb; cases hb) e
  new := fun b h e => by
    by_cases q : b = ad
    · rw [q, ho] at e; cases e
    · have h : st.H.upd ad o' b ≠ none := h
      rw [upd_other _ _ q] at h; exact absurd e h
  stay := fun b h => by
    show st.H.upd ad o' b ≠ none
    by_cases q : b = ad
    · rw [q, upd_self]; simp
    · rw [upd_other _ _ q]; exact h
  B := rfl
  len := rfl
  ext := fun b h e => by
    by_cases q : b = ad
    · subst q; exact hx e
    · cases q2 : s.heap.get? b with
      | none => exact h q2
      | some ob =>
        have := hk b ob q q2
        rw [show ({ s with heap := h', toks := tk } : Shared).heap = h' from rfl, this] at e; cases e
  qt := nofun
theorem RVs.upd {H : AH} {Sys : Addr → Prop} {h h' : Heap} {ad : Addr} {o o' : AO} {vs : List V} {xs : List Value} (r : RVs (NN H Sys) h vs xs) (ho : H ad = some o) (hk : ∀ b ob, b ≠ ad → h.get? b = some ob → h'.get? b = some ob) : RVs (NN (H.upd ad o') Sys) h' vs xs :=
  r.gen (fun b q => by
    rcases q with q | q
    · by_cases e : b = ad
      · subst e; exact .inl (.inl (by rw [ho]; simp))
      · rw [upd_other _ _ e] at q; exact .inl (.inl q)
    · exact .inl (.inr q)) fun b ob nb e => hk b ob (fun q => nb (.inl (by rw [q, ho]; simp))) e
theorem RV.upd {H : AH} {Sys : Addr → Prop} {h h' : Heap} {ad : Addr} {o o' : AO} {v : V} {x : Value} (r : RV (NN H Sys) h v x) (ho : H ad = some o) (hk : ∀ b ob, b ≠ ad → h.get? b = some ob → h'.get? b = some ob) : RV (NN (H.upd ad o') Sys) h' v x :=
  r.gen (fun b q => by
    rcases q with q | q
    · by_cases e : b = ad
      · subst e; exact .inl (.inl (by rw [ho]; simp))
      · rw [upd_other _ _ e] at q; exact .inl (.inl q)
    · exact .inl (.inr q)) fun b ob nb e => hk b ob (fun q => nb (.inl (by rw [q, ho]; simp))) e

end Mine
end

section
set_option autoImplicit false
namespace Mine
open PySem

section
variable {G : PG} {d : Nat} {c : Sc} {A : Around} {env : Env} {lay : Nat → Option Place} {Sys : Addr → Prop} {base : Heap} {st : St} {s : Shared}

theorem chkN_star {i : Nat} {tg : Expr} (h : chkN c i tg = true) : noStar tg = true := by obtain ⟨x, pos, rfl, _⟩ := chkN_eq h; rfl
theorem chkN_swap {i : Nat} {tg y : Expr} (h : chkN c i tg = true) : swappedStores [tg] y env = pure none := by obtain ⟨x, pos, rfl, _⟩ := chkN_eq h; rfl

theorem ss_own {i : Nat} {a : Mine.A} {tg y : Expr} {pos : Pos} {Q : Fl → St → Prop} {X : String → St → Prop} {K : Flow → Shared → Prop} {E : Value → Shared → Prop} (F : Fx G d c A env lay Sys base st s) (ha : SA G d c a y) (ht : chkN c i tg = true) (hs : swapsWithSole [tg] y pos.line env = pure false)
    (hW : WS (G.cx d) (.own i a) st Q X) (hK : ∀ f fl st' s', Q f st' → FlR (NN st'.H Sys) s'.heap f fl → Fx G d c A env lay Sys base st' s' → Ps true lay st s st' s' → K fl s') : wpAny (model G.prog G.w) A (exec (.Assign [tg] y pos) env) K E s := by
  simp only [ws_0, ws_1, ws_2, ws_3, ws_4, ws_5, ws_6, ws_7, ws_8, ws_9, ws_10, ws_11, ws_12, ws_13, pk_ret, pk_next] at hW
  refine asg_plain hs (chkN_swap ht) (chkN_star ht) (ha F _ _ _ E hW (fun v H' val s₁ q F₁ r k g => ?_) fun e s' q => q.elim)
  replace q := putV_inv (P := fun ρ' => Q .next { st with ρ := ρ', H := H' }) q
  refine st_one F₁.eo F₁.sim ht q.1 r fun h' tk S' tc => ?_
  exact hK .next .next _ _ q.2 .next ⟨F.rm, F.eo, F.us, S'⟩ ((Ps.ofK k g).trans (Ps.ofTc (st := { st with H := H' }) S' tc (by simp)))

/-- a comprehension's value, stored ahead of the names' letting go -/
theorem own_swap {f : V → (Option V → Prop) → Prop} {t : Tg} {tg tg' iter elt : Expr} {ifs : List Expr} {sc : Scope} {pos pos' : Pos} {xs : List Str} {it : It} {i : Nat} {QQ : List V → Prop} {X' : String → Prop} {Q : Fl → St → Prop} {K : Flow → Shared → Prop} {E : Value → Shared → Prop}
    (F : Fx G d c A env lay Sys base st s) (hi : SI G d c it iter) (hset : isSetX iter = false) (hez : isEZ it = true → isTupX tg' = true) (ht : TableOk c xs sc) (hti : tgIs c.used t xs = true) (htg : chkTg (inner c xs sc.names) t tg' = true)
    (hstep : CStep G d c A st base xs sc t ifs elt f) (htn : chkN c i tg = true) (hsw : swapsWithSole [tg] (.ListComp elt [⟨tg', iter, ifs, 0⟩] sc pos') pos.line env = pure true) (hW : WI (G.cx d) it st (fun xs _ => xs.length ≤ sizeLine ∧ compL f xs QQ) X')
    (hmk : ∀ ys D, QQ ys → freshAt st D → ∃ v H', i < st.ρ.length ∧ Q .next { st with ρ := st.ρ.set i (some v), H := H' } ∧ ((v = .lst ys ∧ H' = st.H) ∨ (v = .ref D ∧ H' = st.H.upd D (.list ys))))
    (hK : ∀ f fl st' s', Q f st' → FlR (NN st'.H Sys) s'.heap f fl → Fx G d c A env lay Sys base st' s' → Ps true lay st s st' s' → K fl s') :
    wpAny (model G.prog G.w) A (exec (.Assign [tg] (.ListComp elt [⟨tg', iter, ifs, 0⟩] sc pos') pos) env) K E s := by
  have etg : (assignEach [tg] env).map (·.2) = [assign tg env] := by obtain ⟨x, p, rfl, _⟩ := chkN_eq htn; rfl
  rw [exec_Assign_arm]
  refine wpAny_bind (wpAny_standAt ?_)
  rw [hsw]
  refine wpAny_bind (wpAny_pure ?_)
  rw [if_pos rfl, etg]
  obtain ⟨cl, e1, e2⟩ := closure_ok (free_cells F.eo ht)
  refine wpAny_bind ?_
  show wpAny _ A (do let _ ← comprehension (.ListComp elt [⟨tg', iter, ifs, 0⟩] sc pos') sc env _ (newList []) false (eval iter env) (some fun v => assignAll v [assign tg env])) _ _ s
  refine wpAny_bind (wpAny_mono (wpAny_comprehension_free (use := some fun v => assignAll v [assign tg env]) (Q := fun _ s' => K .next s') rfl (folded_plain hset env) e1 ht.kind (fun x hx hl => by rw [← hl]; exact nodup_lookup ht.nodup hx) ?_) (fun _ s' hq => wpAny_pure (wpAny_pure hq)) fun _ _ e => e)
  refine hi F _ X' _ E hW (fun vs ds I s₂ hq k io => ?_) fun e s' q => q.elim
  refine comp_block (RR := fun acc C => compPost (model G.prog G.w) A E (some fun v => assignAll v [assign tg env]) (fun _ s' => K .next s') acc C) F k io hez hq.1 ht hti htg e2 hstep hq.2 ?_
  intro D C h' tk m' ys zs nn hQ hD hC hDC hm hl hz hr hk
  obtain ⟨h2, t2, rfl, k2⟩ := k
  show wpAny _ A (assign tg env (.ref D)) _ _ _
  have hbC : base.get? C = none := by
    cases e : base.get? C with
    | none => rfl
    | some o => rw [F.sim.keep _ _ e] at hC; cases hC
  have hbD : base.get? D = none := by
    cases e : base.get? D with
    | none => rfl
    | some o => rw [F.sim.keep _ _ e] at hD; cases hD
  obtain ⟨v, H', hil, hq2, hcase⟩ := hmk ys D hQ ⟨F.sim.fresh hD, F.sim.freshB hD⟩
  have hHC : H' C = none := by
    rcases hcase with ⟨_, rfl⟩ | ⟨_, rfl⟩
    · exact F.sim.fresh hC
    · rw [upd_other _ _ (Ne.symm hDC)]; exact F.sim.fresh hC
  have hHD : st.H D = none := F.sim.fresh hD
  have hCex : h'.get? C ≠ none := by
    obtain ⟨o, es, ep, ho, _⟩ := hm
    rw [ho]; simp
  have hgr : Gr st.H H' s := by
    rcases hcase with ⟨_, rfl⟩ | ⟨_, rfl⟩
    · exact Gr.refl _ _
    · refine ⟨fun b h => upd_other _ _ (fun e => h (e ▸ hHD)), fun b h e => ?_⟩
      by_cases q : b = D
      · rw [q]; exact hD
      · rw [upd_other _ _ q] at h; exact absurd e h
  have S1 : Sim G.hf (TT G) lay (fun a => Sys a ∨ a = C) base { st with H := H' } h' := by
    refine F.sim.gen (New := fun a => a = C) hk (fun b q => by rw [q]; exact hC) (fun b q => by rw [q]; exact hCex) hgr.stay hgr.new fun b o e e' => ?_
    rcases hcase with ⟨_, rfl⟩ | ⟨_, rfl⟩
    · rw [e'] at e; cases e
    · by_cases q : b = D
      · subst q
        rw [upd_self] at e; cases e
        refine .list hl hz (hr.less fun b' q => ?_)
        rcases q with q | q | q
        · by_cases e : b' = b
          · exact .inr (.inr (.inr e))
          · rw [upd_other _ _ e] at q; exact .inl q
        · exact .inr (.inl q)
        · exact .inr (.inr (.inl q))
      · rw [upd_other _ _ q, e'] at e; cases e
  have hrv : RV (NN H' (fun a => Sys a ∨ a = C)) h' v (.ref D) := by
    rcases hcase with ⟨rfl, rfl⟩ | ⟨rfl, rfl⟩
    · refine .lst (fun q => ?_) hl hz (hr.less fun b' q => ?_)
      · rcases q with q | q | q
        · exact q hHD
        · exact F.sim.live _ q hD
        · exact hDC q
      · rcases q with q | q | q
        · exact .inl q
        · exact .inr (.inl q)
        · exact .inr (.inr (.inl q))
    · exact .ref D
  refine st_one (st := { st with H := H' }) (s := { s with heap := h', toks := tk }) F.eo S1 htn hil hrv fun h3 tk3 S3 tc => ?_
  have hplC : ∀ i p, lay i = some p → C ≠ p.addr := fun i p hp e => F.sim.live _ (F.sim.sys i p hp).1 (e ▸ hC)
  refine ⟨m', hm.at' fun o e => tc C o (fun i _ p hp => hplC i p hp) e, fun h4 hs => ?_⟩
  have S4 : Sim G.hf (TT G) lay Sys base { st with H := H', ρ := st.ρ.set i (some v) } h4 :=
    Sim.leave (New := fun a => a = C) S3 (fun b o nb e => hs.extBut b o nb e) (fun i p hp => (F.sim.sys i p hp).1) (fun a q e => F.sim.live _ q (e ▸ hC)) (fun b h e => h (e ▸ hHC)) fun b q => by rw [q]; exact hbC
  refine hK .next .next _ _ hq2 .next ⟨F.rm, F.eo, F.us, S4⟩ ⟨⟨h4, tk3, rfl⟩, fun b o hb hp e => ?_, fun b h e => hgr.new b h e, fun b h => ?_, rfl, by simp, fun b h e => ?_, fun _ b o hp e => hs.extBut b o (fun q => by rw [q, hC] at e; cases e) (tc b o (fun i _ p hi => hp i p hi) (hk b o e))⟩
  · exact hs.extBut b o (fun q => by rw [q, hC] at e; cases e) (tc b o (fun i _ p hi => hp i p hi) (hk b o e))
  · show H' b ≠ none; rw [hgr.stay b h]; exact h
  · cases q : s.heap.get? b with
    | none => exact h q
    | some o =>
      have hbC' : b ≠ C := fun q' => by rw [q', hC] at q; cases q
      have e4 : h4.get? b = none := e
      rw [hs.2 b hbC'] at e4
      by_cases hp : ∃ i p, lay i = some p ∧ b = p.addr
      · obtain ⟨i, p, hi, rfl⟩ := hp
        exact S3.live _ (.inl (F.sim.sys i p hi).1) e4
      · have := tc b o (fun i _ p hi hb => hp ⟨i, p, hi, hb⟩) (hk b o q)
        rw [this] at e4; cases e4
end

end Mine
end

section
set_option autoImplicit false
namespace Mine
open PySem

section
variable {G : PG} {d : Nat} {c : Sc} {A : Around} {env : Env} {lay : Nat → Option Place} {Sys : Addr → Prop} {base : Heap} {st : St} {s : Shared}

theorem sole_none {tg y : Expr} {l : Nat} (h : isComp y = false) : swapsWithSole [tg] y l env = pure false := swaps_none h
theorem sole_case {i : Nat} {tg elt : Expr} {gens : List Comprehension} {sc : Scope} {p : Pos} {l : Nat} (h : chkN c i tg = true) : swapsWithSole [tg] (.ListComp elt gens sc p) l env = pure false ∨ swapsWithSole [tg] (.ListComp elt gens sc p) l env = pure true := by
  obtain ⟨x, pos, rfl, _⟩ := chkN_eq h
  have e : swapsWithSole [.Name x pos] (.ListComp elt gens sc p) l env = pure (env.blockKind == .function && env.kindOf x == some .local && pos.line == (Expr.ListComp elt gens sc p).pos.line
      && !(sc.names.any fun (n, k) => n == x && (k == .local || k == .cell))) := rfl
  rw [e]
  cases (env.blockKind == .function && env.kindOf x == some .local && pos.line == (Expr.ListComp elt gens sc p).pos.line && !(sc.names.any fun (n, k) => n == x && (k == .local || k == .cell)))
  · exact .inl rfl
  · exact .inr rfl

theorem snd_own (hc : CallSnd G d) {i : Nat} {a : Mine.A} {tg y : Expr} {pos : Pos} (hf : c.fns = G.tbl.map (·.1)) (ht : chkN c i tg = true) (ha : chkA c a y = true) (hn : okOwn a = true) : SS G d c (.own i a) (.Assign [tg] y pos) := by
  intro A env lay Sys base st s F Q X K E hW hK _
  by_cases hcp : isComp y = true
  · -- a comprehension
    have key : ∀ e, chkE c e y = true → (a = .pure e ∨ (a = .thaw e)) → wpAny (model G.prog G.w) A (exec (.Assign [tg] y pos) env) K E s := by
      intro e he hae
      cases e with
      | comp elt t it =>
        replace he := onLC_inv he; obtain ⟨y0, gs, sc, p', rfl, he⟩ := he
        replace he := one_inv he; obtain ⟨g, rfl, he⟩ := he
        replace he := (Bool.and_eq_true _ _).mp he; obtain ⟨h0, he⟩ := he
        replace h0 := (Bool.and_eq_true _ _).mp h0; obtain ⟨hz, h0⟩ := h0
        obtain ⟨tg', iter, ifs, ias⟩ := g
        have e0 := of_decide_eq_true h0
        simp only at hz e0 he
        cases ifs with
        | cons => exact ff hz
        | nil =>
        subst e0
        · split at he
          · rename_i xs hx
            simp only [Bool.and_eq_true, Bool.not_eq_true'] at he
            obtain ⟨⟨⟨⟨⟨⟨h1, h2⟩, h3⟩, h4⟩, h00⟩, h5⟩, h6⟩ := he
            have hf' : (inner c xs sc.names).fns = G.tbl.map (·.1) := hf
            rcases sole_case (env := env) (elt := y0) (gens := [⟨tg', iter, [], 0⟩]) (sc := sc) (p := p') (l := pos.line) ht with hs | hs
            · exact ss_own F (sndA hc a c _ hf ha) ht hs hW hK
            · have hstep : CStep G d c A st base xs sc t [] y0 _ := cstep_plain (sndE hc elt _ _ hf' h6).1
              simp only [ws_0, ws_1, ws_2, ws_3, ws_4, ws_5, ws_6, ws_7, ws_8, ws_9, ws_10, ws_11, ws_12, ws_13, pk_ret, pk_next] at hW
              rcases hae with rfl | rfl
              · simp only [wa_0, wa_1, wa_2, wa_3, wa_4, we_0, we_1, we_2, we_3, we_4, we_5, we_6, we_7, we_8, we_9, we_10, we_11, we_12, we_13, we_14, we_15, we_16, we_17, we_18, we_19, we_20, we_21, we_22, we_23, we_24, we_25, we_26, we_27, we_28, we_29, we_30, we_31, we_32, we_33, we_34, we_35] at hW
                refine own_swap (QQ := fun ys => match putV i (.lst ys) st.ρ with
                  | some ρ' => Q .next { st with ρ := ρ' }
                  | none => False) F ((sndI hc it c _ hf h5).1 (ezOk_walk h00)) h4 (ezOk_inv h00) (tableOk_eq h2) h1 h3 hstep ht hs hW (fun ys D q _ => let q := putV_inv (P := fun ρ' => Q .next { st with ρ := ρ' }) q; ⟨_, _, q.1, q.2, .inl ⟨rfl, rfl⟩⟩) hK
              · exact ff hn
          · cases he
      | compIf elt t it cd => rcases hae with rfl | rfl <;> exact ff hn
      | _ => exact ff (comp_only he hcp)
    cases a with
    | pure e => exact key e ha (.inl rfl)
    | thaw e => exact key e ((Bool.and_eq_true _ _).mp ha).2 (.inr rfl)
    | list as => obtain ⟨xs, p, rfl, _⟩ := onList_inv ha; exact ff hcp
    | dict => exact ff ha
    | new f es => obtain ⟨y', p', xs', q', rfl, _⟩ := onCallN_inv ha; exact ff hcp
  · exact ss_own F (sndA hc a c _ hf ha) ht (sole_none (by simpa using hcp)) hW hK
end

end Mine
end

section
set_option autoImplicit false
namespace Mine
open PySem

noncomputable def nmOf : Expr → Option Str
  | .Name a _ => some a
  | _ => none

theorem fm_len {α β : Type} (g : α → Option β) : ∀ l : List α, (l.filterMap g).length ≤ l.length := fun l => List.length_filterMap_le g l
theorem fm_eq (g : Expr → Option Str) : ∀ (l : List Expr), (∀ x ∈ l, g x = nmOf x ∨ g x = none) → (∀ x ∈ l, (nmOf x).isSome) → (l.filterMap g).length = l.length → l.filterMap g = l.filterMap nmOf
  | [], _, _, _ => rfl
  | x :: r, hg, hn, hl => by
    rcases hg x (by simp) with h | h
    · rw [List.filterMap_cons, List.filterMap_cons, h]
      cases hx : nmOf x with
      | none => have := hn x (by simp); rw [hx] at this; cases this
      | some a =>
        rw [List.filterMap_cons, h, hx] at hl
        simp only [List.length_cons, Nat.add_right_cancel_iff] at hl ⊢
        rw [fm_eq g r (fun y hy => hg y (List.mem_cons_of_mem _ hy)) (fun y hy => hn y (List.mem_cons_of_mem _ hy)) hl]
    · rw [List.filterMap_cons, h] at hl
      have := fm_len g r
      simp only [List.length_cons] at hl
      omega

theorem setAll_comm {i : Nat} {v : V} : ∀ {is : List Nat} {vs : List V} {ρ : List (Option V)}, i ∉ is → setAll is vs (ρ.set i (some v)) = (setAll is vs ρ).map (·.set i (some v))
  | [], [], _, _ => rfl
  | [], _ :: _, _, _ => rfl
  | _ :: _, [], _, _ => rfl
  | j :: is, w :: vs, ρ, h => by
    simp only [sa_nil, sa_cons, sa_l, sa_r, List.length_set]
    have hij : i ≠ j := fun e => h (by simp [e])
    split
    · rw [List.set_comm _ _ hij, setAll_comm (fun q => h (by simp [q]))]
    · rfl
theorem setAll_snoc {i : Nat} {v : V} : ∀ {is : List Nat} {vs : List V} {ρ : List (Option V)}, is.length = vs.length → setAll (is ++ [i]) (vs ++ [v]) ρ = (setAll is vs ρ).bind fun ρ' => if i < ρ'.length then some (ρ'.set i (some v)) else none
  | [], [], ρ, _ => by simp [sa_nil, sa_cons, sa_l, sa_r]
  | [], _ :: _, _, h => by simp at h
  | _ :: _, [], _, h => by simp at h
  | j :: is, w :: vs, ρ, h => by
    simp only [List.cons_append, sa_nil, sa_cons, sa_l, sa_r]
    split
    · exact setAll_snoc (by simpa using h)
    · rfl
theorem setAll_rev : ∀ {is : List Nat} {vs : List V} {ρ : List (Option V)}, is.Nodup → is.length = vs.length → setAll is.reverse vs.reverse ρ = setAll is vs ρ
  | [], [], _, _, _ => rfl
  | [], _ :: _, _, _, h => by simp at h
  | _ :: _, [], _, _, h => by simp at h
  | i :: is, v :: vs, ρ, hn, h => by
    rw [List.nodup_cons] at hn
    have hl : is.length = vs.length := by simpa using h
    rw [List.reverse_cons, List.reverse_cons, setAll_snoc (by simp [hl]), setAll_rev hn.2 hl]
    simp only [sa_nil, sa_cons, sa_l, sa_r]
    split
    · rename_i hi
      rw [setAll_comm hn.1]
      cases e : setAll is vs ρ with
      | none => rfl
      | some ρ' =>
        have := (setAll_len e).2
        simp only [Option.bind_some, Option.map_some]
        rw [if_pos (by omega)]
    · rename_i hi
      cases e : setAll is vs ρ with
      | none => rfl
      | some ρ' =>
        have := (setAll_len e).2
        simp only [Option.bind_some]
        rw [if_neg (by omega)]

section
variable {G : PG} {d : Nat} {c : Sc} {A : Around} {env : Env} {lay : Nat → Option Place} {Sys : Addr → Prop} {base : Heap} {st : St} {s : Shared}

noncomputable def NsOk (c : Sc) : List Nat → List Str → Prop
  | [], [] => True
  | i :: is, x :: xs => (c.σ.lookup x = some i ∧ (c.names.lookup x = some .local ∨ c.names.lookup x = some .cell)) ∧ NsOk c is xs
  | _, _ => False
theorem NsOk.snoc {i : Nat} {x : Str} (h : c.σ.lookup x = some i ∧ (c.names.lookup x = some .local ∨ c.names.lookup x = some .cell)) : ∀ {is : List Nat} {xs : List Str}, NsOk c is xs → NsOk c (is ++ [i]) (xs ++ [x])
  | [], [], _ => ⟨h, trivial⟩
  | [], _ :: _, q => q.elim
  | _ :: _, [], q => q.elim
  | _ :: _, _ :: _, q => ⟨q.1, NsOk.snoc h q.2⟩
theorem NsOk.rev : ∀ {is : List Nat} {xs : List Str}, NsOk c is xs → NsOk c is.reverse xs.reverse
  | [], [], _ => trivial
  | [], _ :: _, q => q.elim
  | _ :: _, [], q => q.elim
  | _ :: _, _ :: _, q => by rw [List.reverse_cons, List.reverse_cons]; exact NsOk.snoc q.1 q.2.rev
theorem chkNs_ok : ∀ {is : List Nat} {ts : List Expr}, chkNs c is ts = true → NsOk c is (ts.filterMap nmOf) ∧ (∀ x ∈ ts, (nmOf x).isSome) ∧ (ts.filterMap nmOf).length = is.length
  | [], [], _ => ⟨trivial, by simp, rfl⟩
  | [], _ :: _, h => by simp [chkNs] at h
  | _ :: _, [], h => by simp [chkNs] at h
  | i :: is, t :: ts, h => by
    simp only [chkNs, Bool.and_eq_true] at h
    obtain ⟨x, pos, rfl, h1⟩ := chkN_eq h.1
    obtain ⟨h2, h3, h4⟩ := chkNs_ok h.2
    rw [List.filterMap_cons]
    exact ⟨⟨h1, h2⟩, by simp [nmOf]; exact h3, by simp [nmOf, h4]⟩

theorem bind_each {M : Model} {E : Value → Shared → Prop} {Q : Unit → Shared → Prop} : ∀ (is : List Nat) (xs : List Str) (vs : List V) (vals : List Value) (st : St) (ρ' : List (Option V)) (s : Shared), EnvOk env c.names c.σ lay → Sim G.hf (TT G) lay Sys base st s.heap → NsOk c is xs → setAll is vs st.ρ = some ρ' →
    RVs (NN st.H Sys) s.heap vs vals → (∀ h' tk, Sim G.hf (TT G) lay Sys base { st with ρ := ρ' } h' → Tc is lay s.heap h' → Q () { s with heap := h', toks := tk }) → wpAny M A (assignInOrder (xs.map fun n => bindName env n) vals) Q E s
  | [], xs, vs, vals, st, ρ', s, O, S, hc, hs, hr, hQ => by
    cases xs with
    | cons => exact hc.elim
    | nil =>
      cases vs with
      | cons => simp [sa_nil, sa_cons, sa_l, sa_r] at hs
      | nil =>
        simp [sa_nil, sa_cons, sa_l, sa_r] at hs; subst hs
        exact wpAny_pure (hQ s.heap s.toks S (Tc.refl _))
  | i :: is, xs, vs, vals, st, ρ', s, O, S, hc, hs, hr, hQ => by
    cases xs with
    | nil => exact hc.elim
    | cons x xs =>
      cases vs with
      | nil => simp [sa_nil, sa_cons, sa_l, sa_r] at hs
      | cons v vs =>
        simp only [sa_nil, sa_cons, sa_l, sa_r] at hs
        split at hs
        · rename_i hi
          cases hr with
          | cons r1 r2 =>
            obtain ⟨⟨h1, h2⟩, h3⟩ := hc
            show wpAny M A (do holding _ (bindName env x _); assignInOrder (xs.map fun n => bindName env n) _) Q E s
            refine wpAny_bind (wpAny_holding (wpAny_bindName (st_var O S h1 hi (fun e => ?_) r1 fun h' tk p hp hsb S' => ?_)))
            · rcases h2 with h2 | h2
              · rw [O.lc x h2] at e; cases e
              · rw [O.ce x h2] at e; cases e
            · have tc : Tc [i] lay s.heap h' := fun b o nb e => (hsb.2 b (nb i (by simp) p hp)).trans e
              exact bind_each is xs vs _ _ ρ' { s with heap := h', toks := tk } O S' h3 hs (RVs.tc (st := st) (s := s) S r2 tc) fun h'' tk' S'' tc' => hQ h'' tk' S'' ((tc.more (by simp)).trans (tc'.more (by intro j hj; simp [hj])))
        · cases hs

theorem RVs.rev {N : Addr → Prop} {h : Heap} {vs : List V} {xs : List Value} (r : RVs N h vs xs) : RVs N h vs.reverse xs.reverse := RVs.reverse r

/-- the swapped stores of a row of names -/
theorem swapped_case {is : List Nat} {ts : List Expr} {k : Nat} {p : Pos} {y : Expr} (hn : chkNs c is ts = true) (hy : tupOk y = true) : swappedStores [.Tuple ts k p] y env = pure none ∨ swappedStores [.Tuple ts k p] y env = pure (some (ts.filterMap nmOf)) := by
  cases y with
  | Tuple vs k' p' =>
    unfold swappedStores
    simp only
    split
    · exact .inl rfl
    · split
      · exact .inl rfl
      · split
        · exact .inl rfl
        · rename_i h3
          split
          · exact .inl rfl
          · rename_i h4
            split
            · rename_i h5
              replace hy : (!vs.all (constantsAlone 8) || vs.all (foldedForSure 8)) = true := hy
              simp only [h5, Bool.not_true, Bool.false_or] at hy
              exact absurd hy h4
            · right
              rw [fm_eq _ ts (fun x hx => ?_) (chkNs_ok hn).2.1 ?_]
              · simp only [Bool.or_eq_true, not_or, bne_iff_ne, ne_eq, Decidable.not_not] at h3
                exact h3.1
              · cases x with
                | Name id pos =>
                  dsimp only [nmOf]
                  split
                  · exact .inl rfl
                  · exact .inr rfl
                | _ => exact .inr rfl
  | _ => exact .inl rfl

theorem ss_tup {is : List Nat} {e : E} {ts : List Expr} {k : Nat} {p pos : Pos} {y : Expr} (he : SE G d c e y) (hn : chkNs c is ts = true) (hnd : is.Nodup) (hy : tupOk y = true) : SS G d c (.assign (.tup is) e) (.Assign [.Tuple ts k p] y pos) := by
  intro A env lay Sys base st s F Q X K E hW hK _
  simp only [ws_0, ws_1, ws_2, ws_3, ws_4, ws_5, ws_6, ws_7, ws_8, ws_9, ws_10, ws_11, ws_12, ws_13, pk_ret, pk_next] at hW
  have hsole : swapsWithSole [.Tuple ts k p] y pos.line env = pure false := by cases y <;> rfl
  have htg : chkTg c (.tup is) (.Tuple ts k p) = true := (Bool.and_eq_true _ _).mpr ⟨hn, decide_eq_true hnd⟩
  rcases swapped_case (env := env) (k := k) (p := p) hn hy with hw | hw
  · refine asg_plain hsole hw rfl ((he F).weak _ _ _ E hW (fun v val s₁ q r k₁ _ => ?_) fun e s' q => q.elim)
    split at q
    · rename_i ρ' hb
      refine st_tg F.rm.hnd F.eo (F.keeps k₁).sim htg hb r fun h' tk S' tc => ?_
      exact hK .next .next _ _ q .next ⟨F.rm, F.eo, F.us, S'⟩ ((Ps.ofKp k₁).trans (Ps.ofTc S' tc (bindT_len hb)))
    · exact q.elim
  · refine PyProof.Rows.Assign_Tuple_swapped ((he F).weak _ _ _ E hW (fun v val s₁ q r k₁ _ => ?_) fun e s' q => q.elim) hsole hw
    split at q
    · rename_i ρ' hb
      cases r with
      | @tup ad ys n vs h1 h2 h3 h4 =>
        simp only [bd_var, bd_tup, bd_none, bd_bool, bd_int, bd_str, bd_lst, bd_ref, bd_inst, bd_iref] at hb
        have l3 := (setAll_len hb).1
        have l4 := h4.size
        obtain ⟨n1, n2, n3⟩ := chkNs_ok hn
        have hlen : (ts.filterMap nmOf).length = ys.size := by omega
        rw [hlen]
        refine wpAny_unpackItems_tuple F.rm.hnd (IsT.isTuple h2) fun h' hext => ?_
        have hk : HK s₁.heap h' := fun b o e => hext b o (Nat.ne_of_lt (Heap.lt_size e)) e
        have F₁ := F.keeps k₁
        have kk : Kp s₁ { s₁ with heap := h' } := Kp.ofH hk
        have F₂ := F₁.keeps kk
        refine bind_each is.reverse (ts.filterMap nmOf).reverse vs.reverse _ st ρ' _ F.eo F₂.sim n1.rev (by rw [setAll_rev hnd l3]; exact hb) (h4.keeps hk).rev fun h'' tk S' tc => ?_
        exact hK .next .next _ _ q .next ⟨F.rm, F.eo, F.us, S'⟩ (((Ps.ofKp k₁).trans (Ps.ofKp kk)).trans (Ps.ofTc S' tc (setAll_len hb).2))
      | _ => simp [bd_var, bd_tup, bd_none, bd_bool, bd_int, bd_str, bd_lst, bd_ref, bd_inst, bd_iref] at hb
    · exact q.elim

theorem ss_append {e : E} {a : Mine.A} {o z : Expr} {ap cp pos : Pos} (he : SE G d c e o) (ha : SA G d c a z) (hb : baseX o = true) (hz : noStar z = true) (hl : (ap.endLine == cp.line) = true) :
    SS G d c (.append e a) (.Expr (.Call (.Attribute o (Str.ofString "append") ap) [z] [] cp) pos) := by
  intro A env lay Sys base st s F Q X K E hW hK _
  simp only [ws_0, ws_1, ws_2, ws_3, ws_4, ws_5, ws_6, ws_7, ws_8, ws_9, ws_10, ws_11, ws_12, ws_13, pk_ret, pk_next] at hW
  refine wpAny_Expr_any ?_ (by simp [interactive, F.eo.kind]) rfl
  have hbase : attributeBase o (Str.ofString "append") env (eval o env) = eval o env := by cases o <;> first | rfl | exact ff hb
  refine wpAny_Call_method (T := "list") (id := "list.append") hbase (by rw [starEach_cons hz]; rfl) hl PySem.F.plainAttrs_list PySem.F.slot_list_append PySem.F.type_list_append ?_
  refine (he F).weak _ _ _ E hW (fun v va s₁ h₁ r₁ k₁ fr => ?_) fun e s' q => q.elim
  clear fr
  have F₁ := F.keeps k₁
  split at h₁
  · rename_i ad
    cases r₁
    split at h₁
    · rename_i vs0 hH
      cases F₁.sim.objs _ _ hH with
      | list b1 b2 b3 =>
        refine ⟨b1.isList.typeIs, by rintro a ⟨⟩; exact ⟨_, b1, rfl⟩, ?_⟩
        rw [starEach_cons hz]
        refine P.append_list (ha F₁ _ _ _ E h₁ (fun w H' val s₂ q F₂ r k g => ?_) fun e s' q => q.elim)
        split at q
        · rename_i vs hH'
          obtain ⟨hB, hlt, hQ⟩ := q
          cases F₂.sim.objs _ _ hH' with
          | list c1 c2 c3 =>
            rename_i xs n
            have hsz := c3.size
            refine ⟨xs, n, c2, c1, ?_⟩
            have hk : ∀ b ob, b ≠ ad → s₂.heap.get? b = some ob → (s₂.heap.update ad (Obj.mapSeq fun xs => xs.push val)).get? b = some ob := fun b ob nb e => (Heap.get?_update_other _ _ (Ne.symm nb)).trans e
            have hl' := c1.update (fun xs => xs.push val)
            have hro : RO G.hf (NN (AH.upd H' ad (.list (vs ++ [w]))) Sys) (s₂.heap.update ad (Obj.mapSeq fun xs => xs.push val)) ad (.list (vs ++ [w])) := by
              refine .list hl' (by rw [Array.size_push]; omega) ?_
              rw [Array.toList_push]
              exact (c3.upd hH' hk).append (.cons (r.upd hH' hk) .nil)
            have S' := F₂.sim.write hH' hB hk hro
            exact hK .next .next _ _ hQ .next ⟨F.rm, F.eo, F.us, S'⟩ (((Ps.ofKp k₁).trans (Ps.ofK k g)).trans (Ps.write (st := { st with H := H' }) (s := s₂) hH' hk (by rw [hl']; simp)))
        · exact q.elim
    · exact h₁.elim
  · exact h₁.elim

end

end Mine
end

section
set_option autoImplicit false
namespace Mine
open PySem
end Mine
end

section
set_option autoImplicit false
namespace Mine
open PySem PyProof.Rows
section
variable {G : PG} {d : Nat} {c : Sc}
theorem ss_setattr {e v : E} {n : String} {o y : Expr} {p pos : Pos} (he : SE G d c e o) (hv : SE G d c v y) (hcp : isComp y = false) : SS G d c (.setattr e n v) (.Assign [.Attribute o (Str.ofString n) p] y pos) := by
  intro A env lay Sys base st s F Q X K E hW hK _
  simp only [ws_0, ws_1, ws_2, ws_3, ws_4, ws_5, ws_6, ws_7, ws_8, ws_9, ws_10, ws_11, ws_12, ws_13, pk_ret, pk_next] at hW
  refine plainObj_wpAny_Assign_Attribute ?_ (swaps_none hcp)
  refine (hv F).weak _ _ _ E hW (fun w val s₁ q₁ r₁ k₁ f₁ => ?_) fun e s' q => q.elim
  have F₁ := F.keeps k₁
  refine (he F₁).weak _ _ _ E q₁ (fun u ov s₂ q₂ r₂ k₂ f₂ => ?_) fun e s' q => q.elim
  have F₂ := F₁.keeps k₂
  split at q₂
  · rename_i C ns ad
    obtain ⟨hB, q₂⟩ := q₂
    split at q₂
    · rename_i C' ns' vs hH
      obtain ⟨hh, rfl, rfl, q₂⟩ := q₂
      split at q₂
      · rename_i vs' hset
        cases r₂ with
        | iref n1 i =>
          rename_i x
          cases F₂.sim.objs _ _ hH with
          | inst o r =>
            rename_i xs
            obtain ⟨N0, mN, k, fs, R, hns⟩ := hasC_row F₂.top hh
            obtain ⟨z1, z2⟩ := R.name hns (set_mem hset)
            obtain ⟨nm, qn, bs, sn, sub, col, dd, k0, k1, k2, k3, k5, hC⟩ := R.cls.obj
            obtain ⟨ox, g1, g2, g3, g4, g5⟩ := id i
            have hxC : x ≠ C' := by
              rintro rfl
              rw [g1] at hC; cases hC
              exact g3 _ rfl
            refine store_attr (ns := ns'.map Str.ofString) PySem.F.store_object hC R.cls.ns R.sa z1 z2 hxC (i.inst o.2.2.2) (fun h' tk' I' hk' hsame => ?_) (fun y hy => ?_) (by rw [List.length_map, sizeLine_eq]; have := o.2.2.1; omega)
            · obtain ⟨o₁, e₁, c₁, dt₁, sl₁, dk₁⟩ := hsame ox g1
              have eo : o₁ = ox := by
                obtain ⟨oc, od, odt, osl⟩ := ox
                obtain ⟨oc', od', odt', osl'⟩ := o₁
                cases c₁; cases dt₁; cases sl₁; cases g4
                cases dk₁ _ rfl; rfl
              have hkk : ∀ b ob, b ≠ ad → s₂.heap.get? b = some ob → h'.get? b = some ob := fun b ob nb e => by
                by_cases hb : b = x
                · rw [hb, g1] at e; cases e; rw [hb, e₁, eo]
                · exact hk' b ob hb (fun o₀ d' e₀ ed => by
                    rw [g1] at e₀; cases e₀; rw [g4] at ed; cases ed; exact nb) e
              have r₁' : RV (NN (AH.upd st.H ad (.inst C' ns' vs')) Sys) h' w val := (r₁.keeps k₂.hk).upd hH hkk
              obtain ⟨xs', p1, p2, p3⟩ := attr_set r₁' hset (r.upd hH hkk) o.2.1
              have hns' : NsOf h' ad ns' xs' := by
                refine ⟨o.1.trans p2.symm, o.2.1, o.2.2.1, ?_⟩
                obtain ⟨o', e', _, _, hd'⟩ := I'
                rw [e₁, eo] at e'; cases e'
                rcases hd' with ⟨hn0, _⟩ | ⟨d', hd', _, hns'⟩
                · rw [g4] at hn0; cases hn0
                · rw [g4] at hd'; cases hd'
                  rw [← funext p3]; exact hns'
              have S' := F₂.sim.write hH hB hkk (.inst hns' p1)
              exact hK .next .next _ _ q₂ .next ⟨F.rm, F.eo, F.us, S'⟩ ((Ps.ofKp (k₁.trans k₂)).trans (Ps.write hH hkk (fun e => hns'.ne e)))
            · have := lk_mem hy
              rwa [List.map_fst_zip (Nat.le_of_eq (by rw [List.length_map]; exact o.1))] at this
      · exact q₂.elim
    · exact q₂.elim
  · exact q₂.elim
end
end Mine
end

section
set_option autoImplicit false
namespace Mine
open PySem

/-- things off limits are turned -/
theorem Sim.turn {hsh : HFn} {T : Heap → Prop} {lay : Nat → Option Place} {Sys Mod : Addr → Prop} {base : Heap} {st : St} {h h' : Heap} (S : Sim hsh T lay Sys base st h) (hM : ∀ b, Mod b → Sys b) (hk : ∀ b o, ¬ Mod b → h.get? b = some o → h'.get? b = some o)
    (hlay : ∀ i p, lay i = some p → ¬ Mod p.addr) (hH : ∀ b, st.H b ≠ none → ¬ Mod b) (hbase : ∀ b, Mod b → base.get? b = none) (hlive : ∀ b, Mod b → h'.get? b ≠ none) : Sim hsh T lay Sys base st h' := by
  have hk' : ∀ b o, ¬ NN st.H Sys b → h.get? b = some o → h'.get? b = some o := fun b o nb e => hk b o (fun q => nb (.inr (hM b q))) e
  have hpl : ∀ i p, lay i = some p → ∀ o, h.get? p.addr = some o → h'.get? p.addr = some o := fun i p hp o e => hk _ o (hlay i p hp) e
  refine ⟨fun b o e => hk b o (fun q => by rw [hbase b q] at e; cases e) (S.keep b o e), S.top, fun i v p a b => ?_, fun i p a => ?_, S.inj, S.sys, fun a o e => ?_, S.own, fun a q e => ?_, S.ent⟩
  · obtain ⟨val, x, y⟩ := S.vals i v p a b
    refine ⟨val, ?_, y.gen (fun _ q => .inl q) hk'⟩
    have hp := hpl i p b
    cases p with
    | loc L z =>
      obtain ⟨m, ⟨o, es, ep, ho, r⟩, e⟩ := x
      exact ⟨m, ⟨o, es, ep, hp o ho, r⟩, e⟩
    | cell cc =>
      obtain ⟨o, ho, r⟩ := x
      exact ⟨o, hp o ho, r⟩
  · have hp := hpl i p a
    have x := S.ok i p a
    cases p with
    | loc L z =>
      obtain ⟨m, o, es, ep, ho, r⟩ := x
      exact ⟨m, o, es, ep, hp o ho, r⟩
    | cell cc =>
      obtain ⟨v, o, ho, r⟩ := x
      exact ⟨v, o, hp o ho, r⟩
  · exact (S.objs a o e).gen (fun _ q => .inl q) hk' fun o' e' => hk a o' (hH a (by rw [e]; simp)) e'
  · by_cases hm : Mod a
    · exact hlive a hm e
    · cases q' : h.get? a with
      | none => exact S.live a q q'
      | some o => rw [hk a o hm q'] at e; cases e

section
variable {G : PG} {d : Nat} {c : Sc} {A : Around} {env : Env} {lay : Nat → Option Place} {Sys : Addr → Prop} {base : Heap} {st : St} {s : Shared}

theorem ss_for {t : Tg} {it : It} {b : Bl} {tg y : Expr} {bs : List Stmt} {pos : Pos} (hi : SI G d c it y) (ht : chkTg c t tg = true) (hset : isSetX y = false) (hez : isEZ it = true → isTupX tg = true) (hb : SB G d c b bs) : SS G d c (.for t it b) (.For tg y bs [] pos) := by
  intro A env lay Sys base st s F Q X K E hW hK _
  simp only [ws_0, ws_1, ws_2, ws_3, ws_4, ws_5, ws_6, ws_7, ws_8, ws_9, ws_10, ws_11, ws_12, ws_13, pk_ret, pk_next] at hW
  refine wpAny_For (hi F _ _ _ E hW (fun vs ds I s₂ hq k io => ?_) fun e s' q => q.elim) (folded_plain hset env)
  obtain ⟨hds, hfor⟩ := hq
  generalize isEZ it = nw at io hez
  obtain ⟨fp, wr, P, Mi, Si, W, hsi, hwr, hfp, hdep, hitem⟩ := io.ex
  obtain ⟨h2, t2, rfl, k2⟩ := id k
  -- the loop's invariant
  let Sys' : Addr → Prop := fun a => Sys a ∨ a ∈ wr
  have hSw : ∀ a, Sys a → a ∉ wr := fun a q e => F.sim.live a q (hwr a e)
  have hbw : ∀ a, a ∈ wr → base.get? a = none := fun a q => by
    cases e : base.get? a with
    | none => rfl
    | some o => have := hwr a q; rw [F.sim.keep _ _ e] at this; cases this
  have hpw : ∀ i p, lay i = some p → p.addr ∉ wr := fun i p hp => hSw _ (F.sim.sys i p hp).1
  let Inv : Nat → Shared → Prop := fun n s' => ∃ i st' h tk, n = vs.length - i ∧ i ≤ vs.length ∧ s' = { s with heap := h, toks := tk } ∧ forL t (fun st' K => WB (G.cx d) b st' K X) Q (vs.drop i) st' ∧ Si i h ∧ Sim G.hf (TT G) lay Sys' base st' h ∧
    (∀ b o, st.H b = none → (∀ i p, lay i = some p → b ≠ p.addr) → b ∉ wr → h2.get? b = some o → h.get? b = some o) ∧ (∀ b, st'.H b ≠ none → st.H b = none → h2.get? b = none) ∧ (∀ b, st.H b ≠ none → st'.H b ≠ none) ∧ st'.B = st.B ∧ st'.ρ.length = st.ρ.length ∧ (∀ b, h2.get? b ≠ none → h.get? b ≠ none)
  -- what is tracked is not the walk's own
  have trk : ∀ st' : St, (∀ b, st'.H b ≠ none → st.H b = none → h2.get? b = none) → ∀ b, st'.H b ≠ none → b ∉ wr := by
    intro st' hn b hb hbw'
    cases e : st.H b with
    | none => exact W.ex 0 h2 hsi b hbw' (hn b hb e)
    | some o =>
      obtain ⟨ob, e'⟩ := (F.sim.objs b o e).exists
      rw [hwr b hbw'] at e'; cases e'
  have fin : ∀ (f : Fl) (fl : Flow) (st' : St) (h : Heap) (tk : Nat), Q f st' → FlR (NN st'.H Sys') h f fl → Sim G.hf (TT G) lay Sys' base st' h → (∀ b o, st.H b = none → (∀ i p, lay i = some p → b ≠ p.addr) → b ∉ wr → h2.get? b = some o → h.get? b = some o) → (∀ b, st'.H b ≠ none → st.H b = none → h2.get? b = none) →
      (∀ b, st.H b ≠ none → st'.H b ≠ none) → st'.B = st.B → st'.ρ.length = st.ρ.length → (∀ b, h2.get? b ≠ none → h.get? b ≠ none) → K fl { s with heap := h, toks := tk } := by
    intro f fl st' h tk hq hfl hS hold hnew hstay hB hlen hext
    have S' : Sim G.hf (TT G) lay Sys base st' h := Sim.leave (New := fun a => a ∈ wr) hS (fun _ _ _ e => e) (fun i p hp => (F.sim.sys i p hp).1) hSw (trk st' hnew) hbw
    refine hK f fl st' _ hq ?_ ⟨F.rm, F.eo, F.us, S'⟩ ⟨⟨h, tk, rfl⟩, fun b o h1 h2' e => hold b o h1 h2' (fun q => by rw [hwr b q] at e; cases e) (k2 b o e), fun b h1 h2' => fresh_keeps k (hnew b h1 h2'), hstay, hB, hlen, fun b h1 => hext b fun e => h1 (fresh_keeps k e), nofun⟩
    cases hfl with
    | next => exact .next
    | brk => exact .brk
    | cont => exact .cont
    | ret r => exact .ret (r.less fun b q => q.elim .inl fun q => .inr (.inl q))
  have S0 : Sim G.hf (TT G) lay Sys' base st h2 := F.sim.enter (New := fun a => a ∈ wr) k2 hwr (W.ex 0 h2 hsi)
  refine codeAny_forLoop_any Inv ?_ vs.length ⟨0, st, h2, t2, rfl, Nat.zero_le _, rfl, by simpa using hfor, hsi, S0, fun _ _ _ _ _ e => e, fun _ h e => absurd e h, fun _ h => h, rfl, rfl, fun _ h => h⟩
  rintro n s' ⟨i, st', h, tk, hn, hil, rfl, hfl, hs_i, hS, hold, hnew, hstay, hB, hlen, hext⟩
  rcases Nat.lt_or_ge i vs.length with hlt | hge
  · have hx : vs[i]? = some vs[i] := List.getElem?_eq_getElem hlt
    rw [List.drop_eq_getElem_cons hlt] at hfl
    simp only [fl_nil, fl_cons] at hfl
    split at hfl
    · rename_i ρ' hbd
      refine W.item i _ _ _ hlt hs_i fun val h1 tk1 hMi hfr hk1 => ?_
      refine W.own i { s with heap := h1, toks := tk1 } val tg _ _ hMi hez fun h3 hs3 hP3 hk3 => ?_
      have hk03 : ∀ b o, b ∉ wr → h.get? b = some o → h3.get? b = some o := fun b o nb e => hk3 b o nb (hk1 b o nb e)
      have S3 : Sim G.hf (TT G) lay Sys' base st' h3 := hS.turn (Mod := fun a => a ∈ wr) (fun b q => .inr q) hk03 hpw (trk st' hnew) hbw (W.ex _ _ hs3)
      have hgenN : ∀ b, NN st'.H Sys' b → NN st.H (fun a => Sys a ∨ a ∈ wr) b ∨ h2.get? b = none := by
        rintro b (q | q)
        · cases e : st.H b with
          | none => exact .inr (hnew b q e)
          | some o => exact .inl (.inl (by rw [e]; simp))
        · exact .inl (.inr q)
      have hgenK : ∀ b o, ¬ NN st.H (fun a => Sys a ∨ a ∈ wr) b → h2.get? b = some o → h3.get? b = some o := fun b o nb e => hk03 b o (fun q => nb (.inr (.inr q))) (hold b o (by
        cases q : st.H b with
        | none => rfl
        | some ob => exact absurd (.inl (by rw [q]; simp)) nb) (fun i p hp hbp => nb (.inr (.inl (hbp ▸ (F.sim.sys i p hp).1)))) (fun q => nb (.inr (.inr q))) e)
      have hval : RV (NN st'.H Sys') h3 vs[i] val := by
        have := hitem i vs[i] val h3 hx hP3
        cases nw with
        | false => exact RV.gen hgenN hgenK this
        | true =>
          obtain ⟨t', xs', n', ws, e1, rfl, e3, e4, e5⟩ := this
          rw [e1]
          have hft : h.get? t' = none := hfr rfl t' rfl
          refine .tup (fun q => ?_) e3 e4 (RVs.gen hgenN hgenK e5)
          rcases q with q | q
          · exact q (hS.fresh hft)
          · exact hS.live _ q hft
      refine st_tg (s := { s with heap := h3, toks := tk1 }) F.rm.hnd F.eo S3 ht hbd hval fun h4 tk4 S4 tc => ?_
      have F4 : Fx G d c A env lay Sys' base { st' with ρ := ρ' } { s with heap := h4, toks := tk4 } := ⟨F.rm, F.eo, F.us, S4⟩
      refine hb F4 _ X _ _ hfl (fun f fl st5 s5 q5 r5 F5 p5 => ?_) fun e s' q => q.elim
      obtain ⟨h5, t5, rfl⟩ := p5.sh
      have P4 : Ps (quietB b) lay st' { s with heap := h3, toks := tk1 } { st' with ρ := ρ' } { s with heap := h4, toks := tk4 } := Ps.ofTc (s := { s with heap := h3, toks := tk1 }) (tk := tk4) S4 tc (bindT_len hbd)
      have P5 := P4.trans p5
      have ext03 : ∀ b, h.get? b ≠ none → h3.get? b ≠ none := fun b hne e => by
        by_cases q : b ∈ wr
        · exact W.ex _ _ hs3 b q e
        · cases e' : h.get? b with
          | none => exact hne e'
          | some o => rw [hk03 b o q e'] at e; cases e
      -- the facts of the turn
      have hold5 : ∀ b o, st.H b = none → (∀ i p, lay i = some p → b ≠ p.addr) → b ∉ wr → h2.get? b = some o → h5.get? b = some o := fun b o e1 e2 e3 e4 => P5.old b o (by
        cases q : st'.H b with
        | none => rfl
        | some ob => rw [hnew b (by rw [q]; simp) e1] at e4; cases e4) e2 (hk03 b o e3 (hold b o e1 e2 e3 e4))
      have hnew5 : ∀ b, st5.H b ≠ none → st.H b = none → h2.get? b = none := fun b e1 e2 => by
        cases q : st'.H b with
        | some o => exact hnew b (by rw [q]; simp) e2
        | none =>
          cases e : h2.get? b with
          | none => rfl
          | some o => exact absurd (P5.new b e1 q) (ext03 b (hext b (by rw [e]; simp)))
      have hstay5 : ∀ b, st.H b ≠ none → st5.H b ≠ none := fun b e => P5.stay b (hstay b e)
      have hB5 : st5.B = st.B := P5.B.trans hB
      have hlen5 : st5.ρ.length = st.ρ.length := P5.len.trans hlen
      have hext5 : ∀ b, h2.get? b ≠ none → h5.get? b ≠ none := fun b e => P5.ext b (ext03 b (hext b e))
      have hsi5 : Si (i + 1) h5 := W.frame _ _ _ hs3 fun b hbf o e => by
        by_cases q : b ∈ wr
        · -- the walk's own things
          refine P5.old b o ?_ (fun i p hp hbp => hpw i p hp (hbp ▸ q)) e
          cases e' : st'.H b with
          | none => rfl
          | some ob => exact absurd q (trk st' hnew b (by rw [e']; simp))
        · rcases hdep b hbf q with q' | ⟨q1, q2⟩
          · refine P5.old b o ?_ (fun i p hp hbp => q' (.inr (hbp ▸ (F.sim.sys i p hp).1))) e
            cases e' : st'.H b with
            | none => rfl
            | some ob =>
              have h0 : st.H b = none := by
                cases e2 : st.H b with
                | none => rfl
                | some o2 => exact absurd (.inl (by rw [e2]; simp)) q'
              obtain ⟨o2, ho2⟩ := hfp b hbf
              have := hnew b (by rw [e']; simp) h0
              rw [show ({ s with heap := h2, toks := t2 } : Shared).heap = h2 from rfl, this] at ho2; cases ho2
          · rcases hds with hqt | hds
            · exact P5.qt hqt b o (fun i p hp hbp => q2 (hbp ▸ (F.sim.sys i p hp).2.2)) e
            · obtain ⟨ob, hob⟩ := F.sim.ent b (hds b q1)
              have h3b : h3.get? b = some ob := S3.keep _ _ hob
              rw [h3b] at e; cases e
              exact F5.sim.keep _ _ hob
      cases r5 with
      | next => exact ⟨vs.length - (i + 1), by omega, i + 1, st5, h5, t5, rfl, hlt, rfl, q5, hsi5, F5.sim, hold5, hnew5, hstay5, hB5, hlen5, hext5⟩
      | cont => exact ⟨vs.length - (i + 1), by omega, i + 1, st5, h5, t5, rfl, hlt, rfl, q5, hsi5, F5.sim, hold5, hnew5, hstay5, hB5, hlen5, hext5⟩
      | brk => exact fin .next .next st5 h5 t5 q5 .next F5.sim hold5 hnew5 hstay5 hB5 hlen5 hext5
      | ret r => exact fin (.ret _) (.ret _) st5 h5 t5 q5 (.ret r) F5.sim hold5 hnew5 hstay5 hB5 hlen5 hext5
    · exact hfl.elim
  · have hi' : i = vs.length := by omega
    subst hi'
    rw [List.drop_length] at hfl
    simp only [fl_nil, fl_cons] at hfl
    refine W.done _ _ _ hs_i fun h1 tk1 hk1 => wpAny_execs_nil ?_
    have S' : Sim G.hf (TT G) lay Sys base st' h1 := Sim.leave (New := fun a => a ∈ wr) hS hk1 (fun i p hp => (F.sim.sys i p hp).1) hSw (trk st' hnew) hbw
    refine hK .next .next st' _ hfl .next ⟨F.rm, F.eo, F.us, S'⟩ ⟨⟨h1, tk1, rfl⟩, fun b o e1 e2 e => ?_, fun b e1 e2 => fresh_keeps k (hnew b e1 e2), hstay, hB, hlen, fun b e1 e => ?_, nofun⟩
    · have hbw' : b ∉ wr := fun q => by rw [hwr b q] at e; cases e
      exact hk1 b o hbw' (hold b o e1 e2 hbw' (k2 b o e))
    · have hbw' : b ∉ wr := fun q => e1 (hwr b q)
      cases e' : h.get? b with
      | none => exact hext b (fun q => e1 (fresh_keeps k q)) e'
      | some o =>
        have := hk1 b o hbw' e'
        rw [show ({ s with heap := h1, toks := tk1 } : Shared).heap = h1 from rfl, this] at e; cases e
end

end Mine
end

section
set_option autoImplicit false
namespace Mine
open PySem

section
variable {G : PG} {d : Nat}

theorem WS_var {C : Cx} {i : Nat} {e : E} {st : St} {Q : Fl → St → Prop} {X : String → St → Prop} (h : WS C (.assign (.var i) e) st Q X) : WS C (.own i (.pure e)) st Q X := h

mutual
theorem sndS (hc : CallSnd G d) : ∀ (m : S) (c : Sc) (x : Stmt), c.fns = G.tbl.map (·.1) → chkS c m x = true → SS G d c m x
  | .expr e, c, x, hf, h => by
    replace h := onExpr_inv h; obtain ⟨y, p, rfl, h⟩ := h
    simp only [Bool.and_eq_true, Bool.not_eq_true'] at h
    exact ss_expr (sndE hc e c _ hf h.1).1 h.2
  | .assign t e, c, x, hf, h => by
    replace h := onAssign_inv h; obtain ⟨tg, y, p, rfl, h⟩ := h
    · simp only [Bool.and_eq_true] at h
      obtain ⟨⟨⟨h1, h2⟩, h3⟩, h4⟩ := h
      cases t with
      | var i =>
        intro F Q X K E hW hK hX
        exact snd_own hc hf h1 (a := .pure e) h3 h4 F Q X K E (WS_var hW) hK hX
      | tup is =>
        replace h1 := onTup_inv h1; obtain ⟨xs, k, p', rfl, h1⟩ := h1
        simp only [Bool.and_eq_true, decide_eq_true_eq] at h1
        exact ss_tup (sndE hc e c _ hf h3).1 h1.1 h1.2 h2
  | .own i a, c, x, hf, h => by
    replace h := onAssign_inv h; obtain ⟨tg, y, p, rfl, h⟩ := h
    simp only [Bool.and_eq_true] at h
    exact snd_own hc hf h.1.1 h.1.2 h.2
  | .append e a, c, x, hf, h => by
    replace h := onExpr_inv h; obtain ⟨y, p, rfl, h⟩ := h
    replace h := onCall_inv h; obtain ⟨g, xs, ks, cp, rfl, h⟩ := h
    replace h := (Bool.and_eq_true _ _).mp h; obtain ⟨hk, h⟩ := h
    replace h := one_inv h; obtain ⟨z, rfl, h⟩ := h
    replace h := onAttr_inv h; obtain ⟨o, n, ap, rfl, h⟩ := h
    cases ks with
    | cons => exact ff hk
    | nil =>
      simp only [Bool.and_eq_true, decide_eq_true_eq] at h
      obtain ⟨⟨⟨⟨⟨rfl, h2⟩, h3⟩, h4⟩, h5⟩, h6⟩ := h
      exact ss_append (sndE hc e c _ hf h5).1 (sndA hc a c _ hf h6) h3 h4 h2
  | .pop t e, c, x, hf, h => ff h
  | .setitem a b e, c, x, hf, h => ff h
  | .setkey a b e, c, x, hf, h => ff h
  | .setattr e n v, c, x, hf, h => by
    replace h := onAssign_inv h; obtain ⟨tg, y, p, rfl, h⟩ := h
    replace h := onAttr_inv h; obtain ⟨o, m, ap, rfl, h⟩ := h
    simp only [Bool.and_eq_true, Bool.not_eq_true', decide_eq_true_eq] at h
    obtain ⟨⟨⟨⟨rfl, _⟩, h1⟩, h2⟩, h3⟩ := h
    exact ss_setattr (sndE hc e c _ hf h1).1 (sndE hc v c _ hf h2).1 h3
  | .ite t a b, c, x, hf, h => by
    replace h := onIfS_inv h; obtain ⟨y, bs, os, p, rfl, h⟩ := h
    simp only [Bool.and_eq_true] at h
    obtain ⟨⟨h1, h2⟩, h3⟩ := h
    exact ss_ite (sndE hc t c _ hf h1).2 (sndB hc a c _ hf h2) (sndB hc b c _ hf h3)
  | .while t b, c, x, hf, h => ff h
  | .for t it b, c, x, hf, h => by
    replace h := onFor_inv h; obtain ⟨tg, y, bs, p, rfl, h⟩ := h
    simp only [Bool.and_eq_true, Bool.not_eq_true'] at h
    obtain ⟨⟨⟨⟨h1, h2⟩, h3⟩, h5⟩, h4⟩ := h
    exact ss_for ((sndI hc it c _ hf h2).1 (ezOk_walk h5)) h1 h3 (ezOk_inv h5) (sndB hc b c _ hf h4)
  | .ret e, c, x, hf, h => by
    replace h := onRet_inv h; obtain ⟨y, p, rfl, h⟩ := h
    exact ss_ret (sndE hc e c _ hf h).1
  | .raise k e, c, x, hf, h => ss_raise
  | .tryEx a b e f, c, x, hf, h => ff h
theorem sndB (hc : CallSnd G d) : ∀ (b : Bl) (c : Sc) (xs : List Stmt), c.fns = G.tbl.map (·.1) → chkB c b xs = true → SB G d c b xs
  | .nil, c, xs, hf, h => by
    cases xs with
    | nil => exact sb_nil
    | cons => exact ff h
  | .cons m b, c, xs, hf, h => by
    cases xs with
    | nil => exact ff h
    | cons x r =>
      replace h := (Bool.and_eq_true _ _).mp h
      exact sb_cons (sndS hc m c _ hf h.1) (sndB hc b c _ hf h.2)
end
end

end Mine
end

section
set_option autoImplicit false
namespace Mine
open PySem

/-- a value that leaves its frame -/
theorem frz_ok {hsh : HFn} {H B : AH} {Sys Sys' : Addr → Prop} {h : Heap} (ho : HO hsh H Sys' h) (hsub : ∀ a, Sys a → Sys' a) (hB : ∀ a, B a ≠ none → H a ≠ none) (hown : ∀ a, H a ≠ none → B a = none → ¬ Sys a) :
    ∀ (n : Nat), (∀ (v v' : V) (x : Value), frz H B n v = some v' → RV (NN H Sys') h v x → RV (NN B Sys) h v' x) ∧ (∀ (vs vs' : List V) (xs : List Value), frzs H B n vs = some vs' → RVs (NN H Sys') h vs xs → RVs (NN B Sys) h vs' xs) := by
  have hN : ∀ a, ¬ NN H Sys' a → ¬ NN B Sys a := fun a q q' => q (q'.elim (fun e => .inl (hB a e)) fun e => .inr (hsub a e))
  have all : ∀ n, (∀ (v v' : V) (x : Value), frz H B n v = some v' → RV (NN H Sys') h v x → RV (NN B Sys) h v' x) → (∀ (vs vs' : List V) (xs : List Value), frzs H B n vs = some vs' → RVs (NN H Sys') h vs xs → RVs (NN B Sys) h vs' xs) := by
    intro n hv vs
    induction vs with
    | nil => intro vs' xs e r; simp [fzs_nil, fzs_cons] at e; subst e; cases r; exact .nil
    | cons v vs ih =>
      intro vs' xs e r
      cases r with
      | cons r1 r2 =>
        simp only [fzs_nil, fzs_cons] at e
        split at e
        · rename_i x' xs' e1 e2
          cases e
          exact .cons (hv _ _ _ e1 r1) (ih _ _ e2 r2)
        · cases e
  intro n
  induction n with
  | zero =>
    have h0 : ∀ (v v' : V) (x : Value), frz H B 0 v = some v' → RV (NN H Sys') h v x → RV (NN B Sys) h v' x := fun v v' x e _ => by simp [fz_zero, fz_none, fz_bool, fz_int, fz_str, fz_tup, fz_lst, fz_inst, fz_ref, fz_iref] at e
    exact ⟨h0, all 0 h0⟩
  | succ n ih =>
    have hs : ∀ (v v' : V) (x : Value), frz H B (n + 1) v = some v' → RV (NN H Sys') h v x → RV (NN B Sys) h v' x := by
      intro v v' x e r
      cases r with
      | none => simp [fz_zero, fz_none, fz_bool, fz_int, fz_str, fz_tup, fz_lst, fz_inst, fz_ref, fz_iref] at e; subst e; exact .none
      | bool b => simp [fz_zero, fz_none, fz_bool, fz_int, fz_str, fz_tup, fz_lst, fz_inst, fz_ref, fz_iref] at e; subst e; exact .bool b
      | int i t => simp [fz_zero, fz_none, fz_bool, fz_int, fz_str, fz_tup, fz_lst, fz_inst, fz_ref, fz_iref] at e; subst e; exact .int i t
      | str u t o => simp [fz_zero, fz_none, fz_bool, fz_int, fz_str, fz_tup, fz_lst, fz_inst, fz_ref, fz_iref] at e; subst e; exact .str u t o
      | tup h1 h2 h3 h4 =>
        simp only [fz_zero, fz_none, fz_bool, fz_int, fz_str, fz_tup, fz_lst, fz_inst, fz_ref, fz_iref, Option.map_eq_some_iff] at e
        obtain ⟨vs', e1, rfl⟩ := e
        exact .tup (hN _ h1) h2 h3 (ih.2 _ _ _ e1 h4)
      | lst h1 h2 h3 h4 =>
        simp only [fz_zero, fz_none, fz_bool, fz_int, fz_str, fz_tup, fz_lst, fz_inst, fz_ref, fz_iref, Option.map_eq_some_iff] at e
        obtain ⟨vs', e1, rfl⟩ := e
        exact .lst (hN _ h1) h2 h3 (ih.2 _ _ _ e1 h4)
      | iref h1 h2 =>
        rename_i xa a C ns
        simp only [fz_zero, fz_none, fz_bool, fz_int, fz_str, fz_tup, fz_lst, fz_inst, fz_ref, fz_iref] at e
        split at e
        · cases e; exact .iref (hN _ h1) h2
        · rename_i hBa
          split at e
          · rename_i c ns' vs hH
            by_cases hns : ns' = ns
            · rw [if_pos hns] at e
              simp only [Option.map_eq_some_iff] at e
              obtain ⟨vs', e1, rfl⟩ := e
              cases ho _ _ hH with
              | inst g1 g2 =>
                rw [hns] at g1
                refine .inst (hN _ h1) (fun q => ?_) h2 g1 (ih.2 _ _ _ e1 g2)
                rcases q with q | q
                · exact q hBa
                · exact hown a (by rw [hH]; exact nofun) hBa q
            · rw [if_neg hns] at e; cases e
          · cases e
      | inst h1 h2 h3 h5 h6 =>
        simp only [fz_zero, fz_none, fz_bool, fz_int, fz_str, fz_tup, fz_lst, fz_inst, fz_ref, fz_iref, Option.map_eq_some_iff] at e
        obtain ⟨vs', e1, rfl⟩ := e
        exact .inst (hN _ h1) (hN _ h2) h3 h5 (ih.2 _ _ _ e1 h6)
      | ref a =>
        simp only [fz_zero, fz_none, fz_bool, fz_int, fz_str, fz_tup, fz_lst, fz_inst, fz_ref, fz_iref] at e
        split at e
        · cases e; exact .ref a
        · rename_i hBa
          split at e
          · rename_i vs hH
            simp only [Option.map_eq_some_iff] at e
            obtain ⟨vs', e1, rfl⟩ := e
            cases ho _ _ hH with
            | list h1 h2 h3 =>
              refine .lst (fun q => ?_) h1 h2 (ih.2 _ _ _ e1 h3)
              rcases q with q | q
              · exact q hBa
              · exact hown a (by rw [hH]; simp) hBa q
          · cases e
    exact ⟨hs, all (n + 1) hs⟩

theorem cells_some : ∀ {names : List (Str × NameKind)} {n : Nat} {acc : List (Str × Addr)} {x : Str}, (names.lookup x = some .cell ∧ (names.map (·.1)).Nodup) ∨ (acc.lookup x).isSome → ((cellsFrom n names acc).lookup x).isSome
  | [], _, _, _, h => by
    rcases h with ⟨h, _⟩ | h
    · simp at h
    · exact h
  | (y, k) :: r, n, acc, x, h => by
    unfold cellsFrom
    split
    · rename_i hk
      refine cells_some ?_
      rcases h with ⟨h, hn⟩ | h
      · simp only [List.lookup_cons] at h
        cases hx : x == y with
        | true => right; simp only [List.lookup_cons, hx]; rfl
        | false => rw [hx] at h; simp only [List.map_cons, List.nodup_cons] at hn; exact .inl ⟨h, hn.2⟩
      · right
        simp only [List.lookup_cons]
        split
        · rfl
        · exact h
    · rename_i hk
      refine cells_some ?_
      rcases h with ⟨h, hn⟩ | h
      · simp only [List.lookup_cons] at h
        cases hx : x == y with
        | true => rw [hx] at h; simp only at h; cases h; simp at hk
        | false => rw [hx] at h; simp only [List.map_cons, List.nodup_cons] at hn; exact .inl ⟨h, hn.2⟩
      · exact .inr h

theorem bindL_get {k : Str → Option NameKind} : ∀ {names : List Str} {vals : List Value} {m : Str → Option Value} {x : Str}, names.Nodup → k x = some .local → bindL k (names.zip vals) m x = (((names.zip vals).lookup x).or (m x))
  | [], _, _, _, _, _ => by simp [bindL]
  | _ :: _, [], _, _, _, _ => by simp [bindL]
  | n :: ns, v :: vs, m, x, hn, hk => by
    rw [List.nodup_cons] at hn
    simp only [List.zip_cons_cons, bindL]
    rw [bindL_get hn.2 hk]
    simp only [List.lookup_cons]
    cases hx : x == n with
    | true =>
      have : x = n := by simpa using hx
      subst this
      have hnone : (ns.zip vs).lookup x = none := by
        cases e : (ns.zip vs).lookup x with
        | none => rfl
        | some w => exact absurd (List.of_mem_zip (mem_lookup e)).1 hn.1
      simp [hnone, hk]
    | false =>
      have hne : x ≠ n := by simpa using hx
      simp only
      congr 1
      split
      · simp [hne]
      · rfl
theorem bindC_get {k : Str → Option NameKind} : ∀ {names : List Str} {vals : List Value} {m : Str → Option Value} {x : Str}, names.Nodup → k x ≠ some .local → bindC k (names.zip vals) m x = (((names.zip vals).lookup x).or (m x))
  | [], _, _, _, _, _ => by simp [bindC]
  | _ :: _, [], _, _, _, _ => by simp [bindC]
  | n :: ns, v :: vs, m, x, hn, hk => by
    rw [List.nodup_cons] at hn
    simp only [List.zip_cons_cons, bindC]
    rw [bindC_get hn.2 hk]
    simp only [List.lookup_cons]
    cases hx : x == n with
    | true =>
      have : x = n := by simpa using hx
      subst this
      have hnone : (ns.zip vs).lookup x = none := by
        cases e : (ns.zip vs).lookup x with
        | none => rfl
        | some w => exact absurd (List.of_mem_zip (mem_lookup e)).1 hn.1
      simp [hnone, hk]
    | false =>
      have hne : x ≠ n := by simpa using hx
      simp only
      congr 1
      split
      · rfl
      · simp [hne]

theorem lookup_zip_at {β : Type} : ∀ {names : List Str} {vals : List β} {i : Nat} {x : Str} {v : β}, names.Nodup → names[i]? = some x → vals[i]? = some v → (names.zip vals).lookup x = some v
  | [], _, _, _, _, _, h, _ => by simp at h
  | _ :: _, [], _, _, _, _, _, h => by simp at h
  | n :: ns, w :: ws, 0, x, v, _, h1, h2 => by simp at h1 h2; subst h1 h2; simp
  | n :: ns, w :: ws, i + 1, x, v, hn, h1, h2 => by
    rw [List.nodup_cons] at hn
    simp only [List.getElem?_cons_succ] at h1 h2
    have hne : x ≠ n := fun e => hn.1 (e ▸ List.mem_of_getElem? h1)
    simp only [List.zip_cons_cons, List.lookup_cons]
    rw [show (x == n) = false from by simpa using hne]
    exact lookup_zip_at hn.2 h1 h2
theorem lookup_range {xs : List Str} {x : Str} {i : Nat} (h : (xs.zip (List.range xs.length)).lookup x = some i) : xs[i]? = some x := by
  rw [List.range_eq_range'] at h
  obtain ⟨j, h1, h2⟩ := lookup_zip h
  rw [h2, Nat.zero_add]; exact h1

structure FnOk (fns : List String) (fn : Fn) (dr : DefRec) : Prop where
  pos : dr.params.posonlyargs = []
  kwo : dr.params.kwonlyargs = []
  va : dr.params.vararg = none
  kw : dr.params.kwarg = none
  args : dr.params.args.map (·.arg) = (fn.vars.map Str.ofString).take fn.np
  le : fn.np ≤ fn.vars.length
  nd : (fn.vars.map Str.ofString).Nodup
  st : ∀ x ∈ fn.vars.map Str.ofString, (dr.scope.names.lookup x = some .local ∨ dr.scope.names.lookup x = some .cell) ∧ (x == ("__classdict__" : Str)) = false
  kind : dr.scope.kind = .function
  gen : dr.scope.isGenerator = false
  cor : dr.scope.isCoroutine = false
  names : (dr.scope.names.map (·.1)).Nodup
  nv : fn.vars.length ≤ fn.nv
  body : chkB (fnSc fns fn dr) fn.body dr.body = true
theorem fnOk {fns : List String} {fn : Fn} {dr : DefRec} (h : chkFn fns fn dr = true) : FnOk fns fn dr := by
  unfold chkFn plainParams at h
  simp only [Bool.and_eq_true, decide_eq_true_eq, List.all_eq_true, Bool.not_eq_true'] at h
  obtain ⟨⟨⟨⟨⟨⟨⟨⟨⟨⟨⟨⟨h1, h2⟩, h3⟩, h4⟩, h5⟩, h6⟩, h7⟩, h8⟩, h9⟩, h10⟩, h11⟩, h12⟩, h13⟩ := h
  obtain ⟨⟨⟨⟨⟨a1, a2⟩, a3⟩, a4⟩, a5⟩, a6⟩ := h1
  refine ⟨by simpa using a1, by simpa using a3, by simpa using a2, by simpa using a4, h2, h3, h5, fun x hx => ?_, h7, h8, h9, h11, h12, h13⟩
  obtain ⟨q1, q2⟩ := h6 x hx
  simp only [canStore, Bool.or_eq_true, decide_eq_true_eq] at q1
  exact ⟨q1, q2⟩

/-- where a function's names stand -/
noncomputable def layF (names : List (Str × NameKind)) (cells : List (Str × Addr)) (L : Addr) (xs : List Str) : Nat → Option Place := fun i => match xs[i]? with
  | none => none
  | some x => if names.lookup x = some .local then some (.loc L x) else (cells.lookup x).map .cell

theorem RmC.deeper {d : Nat} {A : Around} {env : Env} (R : RmC (d + 1) A) (h1 : env.scope.isGenerator = false) (h2 : env.scope.isCoroutine = false) (h3 : env.builtins = builtinsNs) (h4 : env.globals = mainGlobals) : RmF d (A.deeper env) := by
  obtain ⟨l, hf⟩ := R.fr
  refine ⟨⟨by have := R.depth; show A.depth + 1 + d + 150 < recursionLimit; omega, by have := R.units; show A.units + 3 + 20 * d + 200 < cLine; omega⟩, R.hnd, env, l, ?_, h1, h2, h3, h4⟩
  show A.frames.map (env :: ·) = _
  rw [hf]; rfl

theorem call_step {G : PG} {d : Nat} (hc : CallSnd G d) : CallSnd G (d + 1) := by
  intro A H Sys s f fa vs vals R T ho hlive hmg hrv Q X K E hW hK hX
  simp only [PG.cx, cxN, callN] at hW
  split at hW
  · exact hW.elim
  · rename_i fn hfn
    obtain ⟨hnp, hnv, hW⟩ := hW
    obtain ⟨dr, a, o, pm, code, doc, h1, h2, h3, h4, h5⟩ := T.fn f fn hfn
    rw [hmg] at h1; cases h1
    have O := fnOk h5
    have hlen := hrv.length
    let xs := fn.vars.map Str.ofString
    have hxl : xs.length = fn.vars.length := by simp [xs]
    have htake : (xs.take fn.np).length = vals.length := by rw [List.length_take, hxl]; have := O.le; omega
    have hndt : (xs.take fn.np).Nodup := List.Nodup.sublist (List.take_sublist _ _) O.nd
    have hkind : ∀ x ∈ (xs.take fn.np).zip vals, dr.scope.names.lookup x.1 = some .local ∨ (dr.scope.names.lookup x.1 = some .cell ∧ ((cellsFrom (s.heap.objs.size + 1) dr.scope.names []).lookup x.1).isSome = true) := by
      intro x hx
      have hm : x.1 ∈ xs := List.mem_of_mem_take (List.of_mem_zip hx).1
      rcases (O.st x.1 hm).1 with q | q
      · exact .inl q
      · exact .inr ⟨q, cells_some (.inl ⟨q, O.names⟩)⟩
    refine wpAny_call (codeAny_call_cells (fd := Calls.docDef dr.name dr.params dr.body dr.scope pm code doc) (binds := (xs.take fn.np).zip vals) (by have := R.depth; omega) h2 h3 T.nolimit h4 rfl (bind_plain O.pos O.args O.kwo O.va O.kw rfl htake hndt) rfl hkind (fun s₁ x => ?_) O.cor O.gen O.kind)
    generalize hEnv : callEnvC (Calls.docDef dr.name dr.params dr.body dr.scope pm code doc) s.heap.objs.size fa = env at x ⊢
    have e1 : env.locals = s.heap.objs.size := by rw [← hEnv]; rfl
    have e2 : env.cells = cellsFrom (s.heap.objs.size + 1) dr.scope.names [] := by rw [← hEnv]; rfl
    have e3 : env.scope = dr.scope := by rw [← hEnv]; rfl
    have e4 : env.globals = mainGlobals := by rw [← hEnv]; rfl
    have e5 : env.builtins = builtinsNs := by rw [← hEnv]; rfl
    have e6 : ∀ y, env.kindOf y = dr.scope.names.lookup y := fun y => by unfold Env.kindOf; rw [e3]
    -- the frame's places
    let lay : Nat → Option Place := layF dr.scope.names env.cells env.locals xs
    let New : Addr → Prop := fun b => b = env.locals ∨ ∃ y, env.cells.lookup y = some b
    let Sys' : Addr → Prop := fun a => Sys a ∨ New a
    have hLf : s.heap.get? env.locals = none := by rw [e1]; exact fresh_size _
    have hcf : ∀ y b, env.cells.lookup y = some b → s.heap.get? b = none := fun y b q => by
      have h' : env.locals < b := x.above y b (mem_of_lookup q)
      rw [e1] at h'
      exact Heap.get?_none_of_le (Nat.le_of_lt h')
    have hNf : ∀ b, New b → s.heap.get? b = none := by
      rintro b (rfl | ⟨y, q⟩)
      · exact hLf
      · exact hcf y b q
    have hNl : ∀ b, New b → s₁.heap.get? b ≠ none := by
      rintro b (rfl | ⟨y, q⟩) e
      · obtain ⟨o, es, ep, ho', _⟩ := x.toInCall.ns
        rw [ho'] at e; cases e
      · obtain ⟨o, ho', _⟩ := x.cell y b q
        rw [ho'] at e; cases e
    have hk : HK s.heap s₁.heap := x.toInCall.keep
    have hHf : ∀ b, s.heap.get? b = none → H b = none := fun b e => by
      cases q : H b with
      | none => rfl
      | some o =>
        obtain ⟨ob, e'⟩ := (ho b o q).exists
        rw [e] at e'; cases e'
    have hlay : ∀ i p, lay i = some p → ∃ y, xs[i]? = some y ∧ ((dr.scope.names.lookup y = some .local ∧ p = .loc env.locals y) ∨ (dr.scope.names.lookup y = some .cell ∧ ∃ b, env.cells.lookup y = some b ∧ p = .cell b)) := by
      intro i p hp
      simp only [lay, layF] at hp
      split at hp
      · cases hp
      · rename_i y hy
        refine ⟨y, hy, ?_⟩
        split at hp
        · rename_i hl; cases hp; exact .inl ⟨hl, rfl⟩
        · rename_i hl
          simp only [Option.map_eq_some_iff] at hp
          obtain ⟨b, hb, rfl⟩ := hp
          exact .inr ⟨((O.st y (List.mem_of_getElem? hy)).1).resolve_left hl, b, hb, rfl⟩
    have hplN : ∀ i p, lay i = some p → New p.addr := by
      intro i p hp
      obtain ⟨y, _, ⟨_, rfl⟩ | ⟨_, b, hb, rfl⟩⟩ := hlay i p hp
      · exact .inl rfl
      · exact .inr ⟨y, hb⟩
    have hN : ∀ b, NN H Sys' b → NN H Sys b ∨ s.heap.get? b = none := by
      rintro b (q | q | q)
      · exact .inl (.inl q)
      · exact .inl (.inr q)
      · exact .inr (hNf b q)
    have hrv' : RVs (NN H Sys') s₁.heap vs vals := hrv.gen hN fun b o _ e => hk b o e
    have S : Sim G.hf (TT G) lay Sys' s.heap ⟨vs.map some ++ List.replicate (fn.nv - fn.np) none, H, H⟩ s₁.heap := by
      refine ⟨hk, T, fun i v p hv hp => ?_, fun i p hp => ?_, fun i j p hi hj => ?_, fun i p hp => ⟨.inr (hplN i p hp), hNf _ (hplN i p hp), hHf _ (hNf _ (hplN i p hp))⟩, fun a o e => ?_, fun a h1 h2 => absurd h2 h1, fun a q e => ?_, fun a q => ?_⟩
      · have hv' : vs[i]? = some v := by
          have hv : (vs.map some ++ List.replicate (fn.nv - fn.np) none)[i]? = some (some v) := hv
          rw [List.getElem?_append] at hv
          split at hv
          · simpa using hv
          · rw [List.getElem?_replicate] at hv
            split at hv <;> simp at hv
        obtain ⟨val, hval, r⟩ := hrv'.get i hv'
        refine ⟨val, ?_, r⟩
        have hi : i < fn.np := by
          obtain ⟨q, _⟩ := List.getElem?_eq_some_iff.mp hv'
          omega
        obtain ⟨y, hy, hc'⟩ := hlay i p hp
        have hyt : (xs.take fn.np)[i]? = some y := by rw [List.getElem?_take, if_pos hi]; exact hy
        have hlk := lookup_zip_at hndt hyt hval
        rcases hc' with ⟨hl, rfl⟩ | ⟨hl, b, hb, rfl⟩
        · refine ⟨_, x.toInCall.ns, ?_⟩
          rw [bindL_get hndt (by rw [e6]; exact hl), hlk]; rfl
        · have := x.cell y b hb
          rw [bindC_get hndt (by rw [e6, hl]; simp), hlk] at this
          exact this
      · obtain ⟨y, hy, ⟨_, rfl⟩ | ⟨_, b, hb, rfl⟩⟩ := hlay i p hp
        · exact ⟨_, x.toInCall.ns⟩
        · exact ⟨_, x.cell y b hb⟩
      · obtain ⟨y, hy, hc1⟩ := hlay i p hi
        obtain ⟨z, hz, hc2⟩ := hlay j p hj
        have hyz : y = z := by
          rcases hc1 with ⟨_, rfl⟩ | ⟨_, b, hb, rfl⟩
          · rcases hc2 with ⟨_, e⟩ | ⟨_, b, hb, e⟩
            · cases e; rfl
            · cases e
          · rcases hc2 with ⟨_, e⟩ | ⟨_, b', hb', e⟩
            · cases e
            · cases e
              exact name_of_addr x.apart (mem_of_lookup hb) (mem_of_lookup hb')
        subst hyz
        obtain ⟨l1, q1⟩ := List.getElem?_eq_some_iff.mp hy
        obtain ⟨l2, q2⟩ := List.getElem?_eq_some_iff.mp hz
        exact nodup_inj O.nd l1 l2 (q1.trans q2.symm)
      · exact (ho a o e).gen hN (fun b o _ e => hk b o e) fun o e => hk a o e
      · rcases q with q | q
        · cases e' : s.heap.get? a with
          | none => exact hlive a q e'
          | some ob => rw [hk _ _ e'] at e; cases e
        · exact hNl a q e
      · cases e' : H a with
        | none => exact absurd e' q
        | some ob => exact (ho a ob e').exists
    have EO : EnvOk env (fnSc (G.tbl.map (·.1)) fn dr).names (fnSc (G.tbl.map (·.1)) fn dr).σ lay := by
      refine ⟨by rw [e3]; exact O.kind, e4, e5, fun y q => by rw [e6]; exact q, fun y q => by rw [e6]; exact q, fun y q => by rw [e6]; exact q, fun y q => .inr (by rw [e6]; exact q), fun y i q => ?_⟩
      have q' : xs[i]? = some y := by
        refine lookup_range ?_
        rw [hxl]; exact q
      obtain ⟨hst, hcd⟩ := O.st y (List.mem_of_getElem? q')
      rcases hst with hl | hl
      · refine ⟨.loc env.locals y, ?_, .inl ⟨by rw [e6]; exact hl, rfl⟩⟩
        simp only [lay, layF, q', hl, if_true]
      · have hcs : (env.cells.lookup y).isSome := by rw [e2]; exact cells_some (.inl ⟨hl, O.names⟩)
        obtain ⟨b, hb⟩ := Option.isSome_iff_exists.mp hcs
        refine ⟨.cell b, ?_, .inr ⟨.inl (by rw [e6]; exact hl), hcd, b, hb, rfl⟩⟩
        simp only [lay, layF, q', hl, hb]
        rfl
    have Fr : Fx G d (fnSc (G.tbl.map (·.1)) fn dr) (A.deeper env) env lay Sys' s.heap ⟨vs.map some ++ List.replicate (fn.nv - fn.np) none, H, H⟩ s₁ := by
      refine ⟨R.deeper (by rw [e3]; exact O.gen) (by rw [e3]; exact O.cor) e5 e4, EO, fun i p hp => ?_, S⟩
      obtain ⟨y, hy, _⟩ := hlay i p hp
      obtain ⟨l, _⟩ := List.getElem?_eq_some_iff.mp hy
      show i < fn.vars.length
      omega
    refine sndB hc fn.body (fnSc (G.tbl.map (·.1)) fn dr) dr.body rfl O.body Fr _ _ _ _ hW (fun fl f' st' s' q r F' p => ?_) fun e s' q => q.elim
    have hsh : ∃ h' tk, s' = { s with heap := h', toks := tk } := by
      obtain ⟨h1, t1, e⟩ := p.sh
      obtain ⟨h2, t2, e'⟩ := x.toInCall.same
      exact ⟨h1, t1, by rw [e, e']⟩
    have kp : Kp s s' := by
      obtain ⟨h', tk, e⟩ := hsh
      have := F'.sim.keep
      subst e
      exact Kp.of this
    have hBst : st'.B = H := p.B
    have hfz := frz_ok (H := st'.H) (B := H) (Sys := Sys) (Sys' := Sys') (h := s'.heap) F'.sim.objs (fun a q => .inl q) (fun a q => p.stay a q) fun a q q' hs => by
      have := F'.sim.own a q (by rw [hBst]; exact q')
      exact hlive a hs this
    cases r with
    | next => exact hK .none .none s' q .none kp
    | brk => exact q.elim
    | cont => exact q.elim
    | ret r =>
      simp only at q
      split at q
      · rename_i v' hv'
        exact hK v' _ s' q ((hfz 8).1 _ _ _ hv' r) kp
      · exact q.elim

theorem call_all {G : PG} : ∀ d, CallSnd G d
  | 0 => by
    intro R T ho hlive hmg hrv Q X K E hW
    exact hW.elim
  | d + 1 => call_step (call_all d)

end Mine
end

section
set_option autoImplicit false
namespace Mine
open PySem

noncomputable def strOkB (u : Str) : Bool := decide (u.length ≤ sizeLine) && u.cps.all (· < 0x110000)

noncomputable def freeB (p : Program) (loose : List Str) : Bool := bnames.all fun n => !(startupNames.contains (Str.ofString n)) && !(loose.contains (Str.ofString n)) && !(((PyProof.Rows.recsOf p).map (·.name)).contains (Str.ofString n)) &&
  !(((PyProof.Rows.litsOf p).map (·.1)).contains (Str.ofString n)) && !(((PyProof.Rows.clssOf p loose).map (·.name)).contains (Str.ofString n))
noncomputable def constB (p : Program) (gtab : List (String × V)) : Bool := gtab.all fun q => match q.2, PyProof.Rows.valOf p (Str.ofString q.1) with
  | .int i, some (.int j) => i == j
  | .str u, some (.str v) => u == v && strOkB u
  | _, _ => false
noncomputable def recAt (p : Program) (f : String) : Option DefRec := (PyProof.Rows.recsOf p).find? (·.name == Str.ofString f)
noncomputable def fnB (p : Program) (fns : List String) (q : String × Fn) : Bool := match recAt p q.1 with
  | some dr => chkFn fns q.2 dr
  | none => false

theorem boot_ok : ∀ n ∈ bnames, Str.ofString n ≠ "__name__" ∧ bootBuiltins (Str.ofString n) = some (bval n) := by
  intro n hn
  simp only [bnames, List.mem_cons, List.not_mem_nil, or_false] at hn
  rcases hn with rfl | rfl | rfl | rfl | rfl | rfl | rfl | rfl | rfl | rfl | rfl | rfl | rfl | rfl <;> exact ⟨by decide, by kernel_rfl⟩

noncomputable def clsB (c : ClsRec) (n : Nat) (fs : List (String × Ini)) : Bool := fs.all (fun f => c.quiet.contains (Str.ofString f.1)) && c.meths.any fun m => decide (m.name = Str.ofString "__init__") && chkIni n fs m.params m.body m.scope
theorem crow_of {h : Heap} {c : ClsRec} {C N : Addr} {mN : Str → Option Value} {n : Nat} {fs : List (String × Ini)} (P : PyProof.Rows.PlainAt h c C N mN) (hb : clsB c n fs = true) (ht : ∀ f ∈ fs, typeLookup (.type "object") (Str.ofString f.1) = pure none) : CRow h C N mN n fs := by
  obtain ⟨h1, h2⟩ := (Bool.and_eq_true _ _).mp hb
  obtain ⟨m, hm, h2⟩ := List.any_eq_true.mp h2
  obtain ⟨h2, h3⟩ := (Bool.and_eq_true _ _).mp h2
  have hn := of_decide_eq_true h2
  obtain ⟨f, o, pm, cd, doc, g1, g2, g3, g4, g5⟩ := P.meths m hm
  rw [hn] at g1 g4 g5
  exact ⟨P.cls, P.quiet _ (List.mem_append_left _ (.tail _ (.head _))), P.quiet _ (List.mem_append_left _ (.head _)), fun f hf => ⟨P.quiet _ (List.contains_iff_mem.mp (List.all_eq_true.mp h1 f hf)), ht f hf⟩, f, o, pm, cd, doc, _, _, _, _, g1, g2, g3, g4, g5, h3⟩
theorem cls_of {p : Program} {loose : List Str} {mg : Str → Option Value} {h : Heap} {x : String} {n : Nat} {fs : List (String × Ini)} (TE : PyProof.Rows.TopE p loose mg h) (hb : ((PyProof.Rows.plainsOf p loose).any fun c => decide (c.name = Str.ofString x) && clsB c.withCmp n fs) = true) (ht : ∀ f ∈ fs, typeLookup (.type "object") (Str.ofString f.1) = pure none) :
    ∃ C, mg (Str.ofString x) = some (.ref C) ∧ ∃ N0 mN, CRow h C N0 mN n fs := by
  obtain ⟨c, hc, hb⟩ := List.any_eq_true.mp hb
  obtain ⟨h1, h2⟩ := (Bool.and_eq_true _ _).mp hb
  obtain ⟨C, N, mN, e, P⟩ := TE c hc
  rw [of_decide_eq_true h1] at e
  exact ⟨C, e, N, mN, crow_of P h2 ht⟩
theorem tt_of {prog : Program} {w : World} {p : Program} {loose : List Str} {mean : ExcName → Option Value} {mg mb : Str → Option Value} {h : Heap} {tbl : Tbl} {gtab : List (String × V)} {ctab : Clss} (T : PyProof.Rows.Top p loose mean mg mb h)
    (htree : prog.given.tree = none) (himp : PyProof.Rows.importsNone p = true) (hfree : freeB p loose = true) (hconst : constB p gtab = true) (hfn : ∀ q ∈ tbl, fnB p (tbl.map (·.1)) q = true)
    (hcl : ∀ r ∈ ctab, mg (Str.ofString r.1) = some (.ref r.2.1) ∧ ∃ N0 mN, CRow h r.2.1 N0 mN r.2.2.1 r.2.2.2)
    : TT ⟨prog, w, mg, mb, tbl, gtab, ctab⟩ h := by
  refine ⟨⟨T.g, T.b, T.nolimit, T.seer himp, htree⟩, fun n hn => ⟨?_, ?_⟩, fun f fn hf => ?_, fun x v hx => ?_
    , hcl
    ⟩
  · have := List.all_eq_true.mp hfree n hn
    simp only [Bool.and_eq_true, Bool.not_eq_true', List.contains_eq_mem, decide_eq_false_iff_not] at this
    obtain ⟨⟨⟨⟨h1, h2⟩, h3⟩, h4⟩, h5⟩ := this
    exact T.free _ h1 h2 h3 h4 h5
  · exact (T.builtins _ (boot_ok n hn).1).trans (boot_ok n hn).2
  · have hm : (f, fn) ∈ tbl := by
      clear hfn
      induction tbl with
      | nil => simp at hf
      | cons q r ih =>
        obtain ⟨g, fg⟩ := q
        simp only [List.lookup_cons] at hf
        cases e : f == g with
        | true =>
          rw [e] at hf; simp only at hf; cases hf
          have : f = g := by simpa using e
          subst this; simp
        | false => rw [e] at hf; simp only at hf; exact List.mem_cons_of_mem _ (ih hf)
    have hq := hfn _ hm
    unfold fnB at hq
    simp only at hq
    split at hq
    · rename_i dr hdr
      have hin := List.mem_of_find?_eq_some hdr
      have hnm : dr.name = Str.ofString f := by simpa using List.find?_some hdr
      obtain ⟨a, o, pm, code, doc, h1, h2, h3, h4⟩ := T.fn dr hin
      exact ⟨dr, a, o, pm, code, doc, hnm ▸ h1, h2, h3, h4, hq⟩
    · cases hq
  · have hm : (x, v) ∈ gtab := by
      clear hconst
      induction gtab with
      | nil => simp at hx
      | cons q r ih =>
        obtain ⟨g, fg⟩ := q
        simp only [List.lookup_cons] at hx
        cases e : x == g with
        | true =>
          rw [e] at hx; simp only at hx; cases hx
          have : x = g := by simpa using e
          subst this; simp
        | false => rw [e] at hx; simp only at hx; exact List.mem_cons_of_mem _ (ih hx)
    have hq := List.all_eq_true.mp hconst _ hm
    simp only at hq
    split at hq
    · rename_i i j hv
      have e : i = j := by simpa using hq
      subst e
      obtain ⟨val, h1, h2⟩ := T.const _ _ hv
      have := h2 h
      cases this
      exact .inl ⟨_, _, rfl, h1⟩
    · rename_i u u' hv
      simp only [Bool.and_eq_true] at hq
      have e : u = u' := by simpa using hq.1
      subst e
      obtain ⟨val, h1, h2⟩ := T.const _ _ hv
      have := h2 h
      cases this
      refine .inr ⟨_, _, rfl, ?_, h1⟩
      have hs := hq.2
      unfold strOkB at hs
      simp only [Bool.and_eq_true, decide_eq_true_eq] at hs
      refine ⟨hs.1, fun c hc => ?_⟩
      have := hs.2
      rw [← Array.all_toList, List.all_eq_true] at this
      simpa using this c hc
    · cases hq

theorem ints_rv {N : Addr → Prop} {h : Heap} : ∀ {vs : List Value} {ns : List Int}, PyProof.Rows.IntsAre vs ns → RVs N h (ns.map V.int) vs
  | _, _, .nil => .nil
  | _, _, .cons n t r => .cons (.int n t) (ints_rv r)

/-- the law's call, from outside -/
theorem law_top {G : PG} {d : Nat} {s : Shared} {fa a : Addr} {vs : List Value} {ns : List Int} {n : Nat} {f : String} {K E : Value → Shared → Prop} (T : TT G s.heap) (hmg : G.mg (Str.ofString f) = some (.ref fa)) (hl : IsL s.heap a vs.toArray n) (hi : PyProof.Rows.IntsAre vs ns) (hz : ns.length ≤ 63)
    (hd : d ≤ 300) (hW : (G.cx d).call f [.lst (ns.map V.int)] (fun _ => none) (fun v => v = .bool true) (fun _ => False)) (hK : ∀ s', Kp s s' → K (.bool true) s') : wpAny (model G.prog G.w) callerA (call (.ref fa) [.ref a]) K E s := by
  have hlen : vs.length = ns.length := by
    have := (ints_rv (N := fun _ => False) (h := s.heap) hi).length
    simpa using this.symm
  refine call_all d (A := callerA) (H := fun _ => none) (Sys := fun _ => False) (vs := [.lst (ns.map V.int)]) (vals := [.ref a]) ⟨⟨?_, ?_⟩, rfl, [], rfl⟩ T (fun _ _ e => by cases e) (fun _ q => q.elim) hmg (.cons (.lst (fun q => ?_) hl ?_ (by simpa using ints_rv hi)) .nil) _ (fun _ => False) K E hW (fun v val s' q r k => ?_) fun e s' q => q.elim
  · show 1 + claimMargin + d + 150 < recursionLimit
    have : claimMargin = 300 := rfl
    have : recursionLimit = 1000 := rfl
    omega
  · show 4 + 20 * d + 200 < cLine
    have : cLine = 9900 := rfl
    omega
  · rcases q with q | q
    · exact q rfl
    · exact q
  · have : sizeLine = 16777216 := rfl
    rw [List.size_toArray]; omega
  · subst q
    cases r
    exact hK s' k

end Mine
end

section
set_option maxRecDepth 100000
set_option maxHeartbeats 8000000
open PySem PySem.W PyProof.Rows Mine Mine.L06
theorem PySem.Challenge.cw_uf020039_06_holds : PySem.Challenge.rw_uf020039_06.Holds := by
  w_on; o_law; o_head Hook.none; (case hw => w_witness2)
  intro w s₀ s₁ mg mb G Y fa o pm cd doc dV kV ho hd hcd hD hmg hg args vals as hpre hlay hrd hwl hlo
  refine Ground.open G ?_
  intro T B D TE TW
  have hmg' : mg (Str.ofString "law") = some (.ref fa) := hmg
  clear hD hcd hd ho hmg Y G B D TW
  wrow_args hpre hlay hrd hwl hlo
  rename_i ns hs hlay0 hL0 hr1 hl2 as2 as3 a vs as4 hL ra w1 r0 hI hr0 hc1 hc2
  have hlist : IsL s₁.heap a vs.toArray 0 := by
    cases w1 with
    | list h1 h2 =>
      obtain ⟨o, ho, _, n, hd⟩ := hL
      rw [h1] at ho; cases ho
      have e : vs.toArray = _ := (Data.seq.inj hd).1.symm
      rw [e]; exact h1
  obtain ⟨C, hC, hrow⟩ := cls_of (x := "Piece") (n := 3) (fs := [("size", .arg 0), ("head", .arg 1), ("tail", .arg 2), ("times", .val (.int 0)), ("first", .val .none)]) TE (by decide +kernel) (by
    intro f hf
    simp only [List.mem_cons, List.not_mem_nil, or_false] at hf
    rcases hf with rfl | rfl | rfl | rfl | rfl <;> (rw [typeLookup_type, builtinLookup_eq_fast]; kernel_rfl))
  have TT1 : TT ⟨PySem.Challenge.rw_uf020039_06.row.prog, w, mg, mb, tbl, gtab, ctab C⟩ s₁.heap := tt_of T rfl (by decide +kernel) (by decide +kernel) (by decide +kernel) (by decide +kernel) (by intro r hr; rw [List.mem_singleton.mp hr]; exact ⟨hC, hrow⟩)
  refine law_top (G := ⟨PySem.Challenge.rw_uf020039_06.row.prog, w, mg, mb, tbl, gtab, ctab C⟩) (d := 30) TT1 hmg' hlist hI (by omega) (by decide) (Mine.L06.main C ns (by omega)) fun s' k => ?_
  obtain ⟨h', tk, rfl, hk⟩ := k
  refine ⟨.inl ⟨.bool true, .bool true, [], rfl, ?_, .bool true, ?_, ?_⟩, ?_, rfl, ?_⟩
  · intro cls; rfl
  · wrow_post
  · intro _; exact ⟨List.nodup_nil, by simp⟩
  · exact .of_keep hk
  · exact .of_eq hg
end
